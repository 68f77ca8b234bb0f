/- Contracts of the reference of layer 17 (Sum, Shift, Scale) and of layer 16 (Mul). -/
import Derived.Test.YtpmocegfiniafaaWa
import Derived.Test.YtpmocegfiniafaaFa
import Derived.Test.YtpmocegfiniafaaRb
namespace Go.Proofs.Ytpmocegfiniafaa
set_option linter.unusedSimpArgs false
set_option linter.unusedVariables false
open Go.RowKit

set_option maxHeartbeats 1000000 in
theorem rsum_p (a b c d e f a' b' c' d' e' f' : Int) (ha0 : 0 ≤ a) (ha1 : a < 65536) (hb0 : 0 ≤ b) (hb1 : b < 65536) (hc0 : 0 ≤ c) (hc1 : c < 65536) (hd0 : 0 ≤ d) (hd1 : d < 65536) (he0 : 0 ≤ e) (he1 : e < 65536) (hf0 : 0 ≤ f) (hf1 : f < 65536) (ha'0 : 0 ≤ a') (ha'1 : a' < 65536) (hb'0 : 0 ≤ b') (hb'1 : b' < 65536) (hc'0 : 0 ≤ c') (hc'1 : c' < 65536) (hd'0 : 0 ≤ d') (hd'1 : d' < 65536) (he'0 : 0 ≤ e') (he'1 : e' < 65536) (hf'0 : 0 ≤ f') (hf'1 : f' < 65536) (w : World) :
    Calls Try.prog 37 #[(.agg #[.int .u16 (a), .int .u16 (b), .int .u16 (c), .int .u16 (d), .int .u16 (e), .int .u16 (f)]), (.agg #[.int .u16 (a'), .int .u16 (b'), .int .u16 (c'), .int .u16 (d'), .int .u16 (e'), .int .u16 (f')]), .int .i64 (1)] w fun r w' => r = .returned (.tuple #[(.agg #[.int .u16 (hi (sat (val a b + val a' b') 268435455)), .int .u16 (lo (sat (val a b + val a' b') 268435455)), .int .u16 (hi (sat (val c d + val c' d') 268435455)), .int .u16 (lo (sat (val c d + val c' d') 268435455)), .int .u16 (hi (sat (val e f + val e' f') 268435455)), .int .u16 (lo (sat (val e f + val e' f') 268435455))]), .bool ((outb (val a b + val a' b') 268435455) || (outb (val c d + val c' d') 268435455) || (outb (val e f + val e' f') 268435455))]) ∧ Below w.heap.size w w' := by
  have k0 := val_lo a b
  have l0 := val_hi a b
  have k1 := val_lo c d
  have l1 := val_hi c d
  have k2 := val_lo e f
  have l2 := val_hi e f
  have k3 := val_lo a' b'
  have l3 := val_hi a' b'
  have k4 := val_lo c' d'
  have l4 := val_hi c' d'
  have k5 := val_lo e' f'
  have l5 := val_hi e' f'
  go_enter Try.func37, Try.ntmps37
  go_wp2_with fail
  have hecr1 := @Ext.cell2
  refine wp_region_float2 4 _ _ _ _ _ (.cells #[.int .i64 0, .int .i64 0, .int .i64 0] 84) (.cells #[.int .i64 0, .int .i64 0, .int .i64 0] 84) (by kernel_rfl) (by kernel_rfl) rfl rfl rfl rfl rfl rfl rfl rfl (fun _ _ => by simp [go_sem]) (fun _ _ => by simp [go_sem]) (by kernel_rfl) (by kernel_rfl) (by kernel_rfl) rfl ?_
  apply Exists.intro
  refine ⟨fun W' => ?_, ?_⟩
  · simp only [List.take_succ_cons, List.take_zero]
    repeat (first | go_big_quiet_skip | (go_big_quiet_want; go_big_quiet_op; first | go_big_quiet_on | (go_big_quiet_call ((first | fail | (go_at_call 58; exact ext_call (rvalues_any _ _ _ _ _ _ (by assumption) (by assumption) (by assumption) (by assumption) (by assumption) (by assumption) (by assumption) (by assumption) (by assumption) (by assumption) (by assumption) (by assumption) _)))))))
    exact wpQuiet_nil rfl
  clear hecr1
  simp only [List.drop_succ_cons, List.drop_zero, Act.put, List.setIfInBounds_toArray, List.set_cons_zero, List.set_cons_succ]
  rintro B1 C1 r1 hbr1 ⟨hBr1, hDr1, hEr1⟩ ⟨hBcr1, hDcr1, hEcr1⟩ hner1
  have hnfr1 := Ne.symm hner1
  have hGr1_0 := block_cell hEr1 0
  have hGr1_1 := block_cell hEr1 1
  have hGr1_2 := block_cell hEr1 2
  have hFr1 := block_free hEr1
  have hGcr1_0 := block_cell hEcr1 0
  have hGcr1_1 := block_cell hEcr1 1
  have hGcr1_2 := block_cell hEcr1 2
  have hFcr1 := block_free hEcr1
  simp only [List.getElem?_toArray, List.getElem?_cons_zero, List.getElem?_cons_succ] at hGr1_0 hGr1_1 hGr1_2 hGcr1_0 hGcr1_1 hGcr1_2
  clear hEr1 hEcr1
  try simp only [World.size_alloc, World.size_setCell, World.size_drew] at hBr1
  try simp only [World.size_alloc, World.size_setCell, World.size_drew] at hBcr1
  obtain ⟨hcr1, hfr1⟩ := bcell hbr1
  have hzr1 := hbr1.size
  try simp only [World.size_alloc, World.size_setCell, World.size_drew] at hzr1
  have hlr1w0 : w.heap.size < r1.heap.size := by omega
  have hlr1w1 : w.heap.size + 1 < r1.heap.size := by omega
  have hlr1w2 : w.heap.size + 1 + 1 < r1.heap.size := by omega
  go_wp2_with fail
  refine (rof_any (val a b + val a' b') (val c d + val c' d') (val e f + val e' f') _).mono ?_
  rintro _ r2 ⟨rfl, hbr2⟩
  obtain ⟨hcr2, hfr2⟩ := bcell hbr2
  have hzr2 := hbr2.size
  try simp only [World.size_alloc, World.size_setCell, World.size_drew] at hzr2
  have hlr2w0 : w.heap.size < r2.heap.size := by omega
  have hlr2w1 : w.heap.size + 1 < r2.heap.size := by omega
  have hlr2w2 : w.heap.size + 1 + 1 < r2.heap.size := by omega
  have hlr2B1 : B1 < r2.heap.size := by omega
  have hlr2C1 : C1 < r2.heap.size := by omega
  go_wp2
  refine bodyPost_ret (v := (.tuple #[(.agg #[.int .u16 (hi (sat (val a b + val a' b') 268435455)), .int .u16 (lo (sat (val a b + val a' b') 268435455)), .int .u16 (hi (sat (val c d + val c' d') 268435455)), .int .u16 (lo (sat (val c d + val c' d') 268435455)), .int .u16 (hi (sat (val e f + val e' f') 268435455)), .int .u16 (lo (sat (val e f + val e' f') 268435455))]), .bool ((outb (val a b + val a' b') 268435455) || (outb (val c d + val c' d') 268435455) || (outb (val e f + val e' f') 268435455))])) (by simp [results, Try.results37, go_sem, *]) rfl ⟨rfl, ?_⟩; exact (by repeat' (first | (with_reducible exact Below.refl _ _) | (with_reducible refine bl_set ?_ _ ?_) | (with_reducible refine bl_alloc ?_ _) | (with_reducible refine bl_drew ?_) | (with_reducible refine bl_via (by with_reducible assumption) ?_) | (with_reducible assumption) | omega | (simp only []; omega) | (simp; omega)))

set_option maxHeartbeats 1000000 in
theorem rsum_m (a b c d e f a' b' c' d' e' f' : Int) (ha0 : 0 ≤ a) (ha1 : a < 65536) (hb0 : 0 ≤ b) (hb1 : b < 65536) (hc0 : 0 ≤ c) (hc1 : c < 65536) (hd0 : 0 ≤ d) (hd1 : d < 65536) (he0 : 0 ≤ e) (he1 : e < 65536) (hf0 : 0 ≤ f) (hf1 : f < 65536) (ha'0 : 0 ≤ a') (ha'1 : a' < 65536) (hb'0 : 0 ≤ b') (hb'1 : b' < 65536) (hc'0 : 0 ≤ c') (hc'1 : c' < 65536) (hd'0 : 0 ≤ d') (hd'1 : d' < 65536) (he'0 : 0 ≤ e') (he'1 : e' < 65536) (hf'0 : 0 ≤ f') (hf'1 : f' < 65536) (w : World) :
    Calls Try.prog 37 #[(.agg #[.int .u16 (a), .int .u16 (b), .int .u16 (c), .int .u16 (d), .int .u16 (e), .int .u16 (f)]), (.agg #[.int .u16 (a'), .int .u16 (b'), .int .u16 (c'), .int .u16 (d'), .int .u16 (e'), .int .u16 (f')]), .int .i64 (-1)] w fun r w' => r = .returned (.tuple #[(.agg #[.int .u16 (hi (sat (val a b - val a' b') 268435455)), .int .u16 (lo (sat (val a b - val a' b') 268435455)), .int .u16 (hi (sat (val c d - val c' d') 268435455)), .int .u16 (lo (sat (val c d - val c' d') 268435455)), .int .u16 (hi (sat (val e f - val e' f') 268435455)), .int .u16 (lo (sat (val e f - val e' f') 268435455))]), .bool ((outb (val a b - val a' b') 268435455) || (outb (val c d - val c' d') 268435455) || (outb (val e f - val e' f') 268435455))]) ∧ Below w.heap.size w w' := by
  have k0 := val_lo a b
  have l0 := val_hi a b
  have k1 := val_lo c d
  have l1 := val_hi c d
  have k2 := val_lo e f
  have l2 := val_hi e f
  have k3 := val_lo a' b'
  have l3 := val_hi a' b'
  have k4 := val_lo c' d'
  have l4 := val_hi c' d'
  have k5 := val_lo e' f'
  have l5 := val_hi e' f'
  have o0 : val a b + -val a' b' = val a b - val a' b' := by omega
  have o1 : val c d + -val c' d' = val c d - val c' d' := by omega
  have o2 : val e f + -val e' f' = val e f - val e' f' := by omega
  go_enter Try.func37, Try.ntmps37
  go_wp2_with fail
  have hecr1 := @Ext.cell2
  refine wp_region_float2 4 _ _ _ _ _ (.cells #[.int .i64 0, .int .i64 0, .int .i64 0] 84) (.cells #[.int .i64 0, .int .i64 0, .int .i64 0] 84) (by kernel_rfl) (by kernel_rfl) rfl rfl rfl rfl rfl rfl rfl rfl (fun _ _ => by simp [go_sem]) (fun _ _ => by simp [go_sem]) (by kernel_rfl) (by kernel_rfl) (by kernel_rfl) rfl ?_
  apply Exists.intro
  refine ⟨fun W' => ?_, ?_⟩
  · simp only [List.take_succ_cons, List.take_zero]
    repeat (first | go_big_quiet_skip | (go_big_quiet_want; go_big_quiet_op; first | go_big_quiet_on | (go_big_quiet_call ((first | fail | (go_at_call 58; exact ext_call (rvalues_any _ _ _ _ _ _ (by assumption) (by assumption) (by assumption) (by assumption) (by assumption) (by assumption) (by assumption) (by assumption) (by assumption) (by assumption) (by assumption) (by assumption) _)))))))
    exact wpQuiet_nil rfl
  clear hecr1
  simp only [List.drop_succ_cons, List.drop_zero, Act.put, List.setIfInBounds_toArray, List.set_cons_zero, List.set_cons_succ]
  rintro B1 C1 r1 hbr1 ⟨hBr1, hDr1, hEr1⟩ ⟨hBcr1, hDcr1, hEcr1⟩ hner1
  have hnfr1 := Ne.symm hner1
  have hGr1_0 := block_cell hEr1 0
  have hGr1_1 := block_cell hEr1 1
  have hGr1_2 := block_cell hEr1 2
  have hFr1 := block_free hEr1
  have hGcr1_0 := block_cell hEcr1 0
  have hGcr1_1 := block_cell hEcr1 1
  have hGcr1_2 := block_cell hEcr1 2
  have hFcr1 := block_free hEcr1
  simp only [List.getElem?_toArray, List.getElem?_cons_zero, List.getElem?_cons_succ] at hGr1_0 hGr1_1 hGr1_2 hGcr1_0 hGcr1_1 hGcr1_2
  clear hEr1 hEcr1
  try simp only [World.size_alloc, World.size_setCell, World.size_drew] at hBr1
  try simp only [World.size_alloc, World.size_setCell, World.size_drew] at hBcr1
  obtain ⟨hcr1, hfr1⟩ := bcell hbr1
  have hzr1 := hbr1.size
  try simp only [World.size_alloc, World.size_setCell, World.size_drew] at hzr1
  have hlr1w0 : w.heap.size < r1.heap.size := by omega
  have hlr1w1 : w.heap.size + 1 < r1.heap.size := by omega
  have hlr1w2 : w.heap.size + 1 + 1 < r1.heap.size := by omega
  go_wp2_with fail
  refine (rof_any (val a b - val a' b') (val c d - val c' d') (val e f - val e' f') _).mono ?_
  rintro _ r2 ⟨rfl, hbr2⟩
  obtain ⟨hcr2, hfr2⟩ := bcell hbr2
  have hzr2 := hbr2.size
  try simp only [World.size_alloc, World.size_setCell, World.size_drew] at hzr2
  have hlr2w0 : w.heap.size < r2.heap.size := by omega
  have hlr2w1 : w.heap.size + 1 < r2.heap.size := by omega
  have hlr2w2 : w.heap.size + 1 + 1 < r2.heap.size := by omega
  have hlr2B1 : B1 < r2.heap.size := by omega
  have hlr2C1 : C1 < r2.heap.size := by omega
  go_wp2
  refine bodyPost_ret (v := (.tuple #[(.agg #[.int .u16 (hi (sat (val a b - val a' b') 268435455)), .int .u16 (lo (sat (val a b - val a' b') 268435455)), .int .u16 (hi (sat (val c d - val c' d') 268435455)), .int .u16 (lo (sat (val c d - val c' d') 268435455)), .int .u16 (hi (sat (val e f - val e' f') 268435455)), .int .u16 (lo (sat (val e f - val e' f') 268435455))]), .bool ((outb (val a b - val a' b') 268435455) || (outb (val c d - val c' d') 268435455) || (outb (val e f - val e' f') 268435455))])) (by simp [results, Try.results37, go_sem, *]) rfl ⟨rfl, ?_⟩; exact (by repeat' (first | (with_reducible exact Below.refl _ _) | (with_reducible refine bl_set ?_ _ ?_) | (with_reducible refine bl_alloc ?_ _) | (with_reducible refine bl_drew ?_) | (with_reducible refine bl_via (by with_reducible assumption) ?_) | (with_reducible assumption) | omega | (simp only []; omega) | (simp; omega)))

set_option maxHeartbeats 4000000 in
theorem rshift17_any (a b c d e f n : Int) (ha0 : 0 ≤ a) (ha1 : a < 65536) (hb0 : 0 ≤ b) (hb1 : b < 65536) (hc0 : 0 ≤ c) (hc1 : c < 65536) (hd0 : 0 ≤ d) (hd1 : d < 65536) (he0 : 0 ≤ e) (he1 : e < 65536) (hf0 : 0 ≤ f) (hf1 : f < 65536) (h2 : n ≤ 9223372036854775807) (w : World) :
    Calls Try.prog 40 #[(.agg #[.int .u16 (a), .int .u16 (b), .int .u16 (c), .int .u16 (d), .int .u16 (e), .int .u16 (f)]), .int .i64 n] w fun r w' => r = .returned (.tuple #[(.agg #[.int .u16 (hi (shv (val a b) n)), .int .u16 (lo (shv (val a b) n)), .int .u16 (hi (shv (val c d) n)), .int .u16 (lo (shv (val c d) n)), .int .u16 (hi (shv (val e f) n)), .int .u16 (lo (shv (val e f) n))]), .bool ((sho (val a b) n) || (sho (val c d) n) || (sho (val e f) n))]) ∧ Below w.heap.size w w' := by
  cases q0 : sho (val a b) n <;> cases q1 : sho (val c d) n
  all_goals
    go_enter Try.func40, Try.ntmps40
    go_wp2_with fail
    refine (rshift_any a b n ha0 ha1 hb0 hb1 h2 _).mono ?_
    rintro _ r1 ⟨rfl, hbr1⟩
    obtain ⟨hcr1, hfr1⟩ := bcell hbr1
    have hzr1 := hbr1.size
    try simp only [World.size_alloc, World.size_setCell, World.size_drew] at hzr1
    have hlr1w0 : w.heap.size < r1.heap.size := by omega
    have hlr1w1 : w.heap.size + 1 < r1.heap.size := by omega
    have gzr1_0 : r1.cell? ⟨w.heap.size + 1, 0, none⟩ = some (.int .u16 0) := (hcr1 _ _ (by (try simp only [World.size_alloc, World.size_setCell]); omega)).trans (by with_reducible first | assumption | exact (World.cell?_alloc_lt _ _ _ (by omega)).trans (by assumption) | exact World.cell?_setCell_same _ _ _ (by assumption) | exact (World.cell?_setCell_other _ _ _ _ (by simp)).trans (by assumption) | exact (rcell_far _ _ _ _ (by dsimp only; omega)).trans ((rcell_far _ _ _ _ (by dsimp only; omega)).trans (by assumption)) | simp (disch := omega) [go_sem, *, List.getElem?_cons_zero, List.getElem?_cons_succ])
    have gzr1_1 : r1.cell? ⟨w.heap.size + 1, 1, none⟩ = some (.int .u16 0) := (hcr1 _ _ (by (try simp only [World.size_alloc, World.size_setCell]); omega)).trans (by with_reducible first | assumption | exact (World.cell?_alloc_lt _ _ _ (by omega)).trans (by assumption) | exact World.cell?_setCell_same _ _ _ (by assumption) | exact (World.cell?_setCell_other _ _ _ _ (by simp)).trans (by assumption) | exact (rcell_far _ _ _ _ (by dsimp only; omega)).trans ((rcell_far _ _ _ _ (by dsimp only; omega)).trans (by assumption)) | simp (disch := omega) [go_sem, *, List.getElem?_cons_zero, List.getElem?_cons_succ])
    have gzr1_2 : r1.cell? ⟨w.heap.size + 1, 2, none⟩ = some (.int .u16 0) := (hcr1 _ _ (by (try simp only [World.size_alloc, World.size_setCell]); omega)).trans (by with_reducible first | assumption | exact (World.cell?_alloc_lt _ _ _ (by omega)).trans (by assumption) | exact World.cell?_setCell_same _ _ _ (by assumption) | exact (World.cell?_setCell_other _ _ _ _ (by simp)).trans (by assumption) | exact (rcell_far _ _ _ _ (by dsimp only; omega)).trans ((rcell_far _ _ _ _ (by dsimp only; omega)).trans (by assumption)) | simp (disch := omega) [go_sem, *, List.getElem?_cons_zero, List.getElem?_cons_succ])
    have gzr1_3 : r1.cell? ⟨w.heap.size + 1, 3, none⟩ = some (.int .u16 0) := (hcr1 _ _ (by (try simp only [World.size_alloc, World.size_setCell]); omega)).trans (by with_reducible first | assumption | exact (World.cell?_alloc_lt _ _ _ (by omega)).trans (by assumption) | exact World.cell?_setCell_same _ _ _ (by assumption) | exact (World.cell?_setCell_other _ _ _ _ (by simp)).trans (by assumption) | exact (rcell_far _ _ _ _ (by dsimp only; omega)).trans ((rcell_far _ _ _ _ (by dsimp only; omega)).trans (by assumption)) | simp (disch := omega) [go_sem, *, List.getElem?_cons_zero, List.getElem?_cons_succ])
    have gzr1_4 : r1.cell? ⟨w.heap.size + 1, 4, none⟩ = some (.int .u16 0) := (hcr1 _ _ (by (try simp only [World.size_alloc, World.size_setCell]); omega)).trans (by with_reducible first | assumption | exact (World.cell?_alloc_lt _ _ _ (by omega)).trans (by assumption) | exact World.cell?_setCell_same _ _ _ (by assumption) | exact (World.cell?_setCell_other _ _ _ _ (by simp)).trans (by assumption) | exact (rcell_far _ _ _ _ (by dsimp only; omega)).trans ((rcell_far _ _ _ _ (by dsimp only; omega)).trans (by assumption)) | simp (disch := omega) [go_sem, *, List.getElem?_cons_zero, List.getElem?_cons_succ])
    have gzr1_5 : r1.cell? ⟨w.heap.size + 1, 5, none⟩ = some (.int .u16 0) := (hcr1 _ _ (by (try simp only [World.size_alloc, World.size_setCell]); omega)).trans (by with_reducible first | assumption | exact (World.cell?_alloc_lt _ _ _ (by omega)).trans (by assumption) | exact World.cell?_setCell_same _ _ _ (by assumption) | exact (World.cell?_setCell_other _ _ _ _ (by simp)).trans (by assumption) | exact (rcell_far _ _ _ _ (by dsimp only; omega)).trans ((rcell_far _ _ _ _ (by dsimp only; omega)).trans (by assumption)) | simp (disch := omega) [go_sem, *, List.getElem?_cons_zero, List.getElem?_cons_succ])
    go_wp2_with fail
    refine (rshift_any c d n hc0 hc1 hd0 hd1 h2 _).mono ?_
    rintro _ r2 ⟨rfl, hbr2⟩
    obtain ⟨hcr2, hfr2⟩ := bcell hbr2
    have hzr2 := hbr2.size
    try simp only [World.size_alloc, World.size_setCell, World.size_drew] at hzr2
    have hlr2w0 : w.heap.size < r2.heap.size := by omega
    have hlr2w1 : w.heap.size + 1 < r2.heap.size := by omega
    have hlr2r10 : r1.heap.size < r2.heap.size := by omega
    have gzr2_0 : r2.cell? ⟨w.heap.size + 1, 0, none⟩ = some (.int .u16 0) := (hcr2 _ _ (by (try simp only [World.size_alloc, World.size_setCell]); omega)).trans (by with_reducible first | assumption | exact (World.cell?_alloc_lt _ _ _ (by omega)).trans (by assumption) | exact World.cell?_setCell_same _ _ _ (by assumption) | exact (World.cell?_setCell_other _ _ _ _ (by simp)).trans (by assumption) | exact (rcell_far _ _ _ _ (by dsimp only; omega)).trans ((rcell_far _ _ _ _ (by dsimp only; omega)).trans (by assumption)) | simp (disch := omega) [go_sem, *, List.getElem?_cons_zero, List.getElem?_cons_succ])
    have gzr2_1 : r2.cell? ⟨w.heap.size + 1, 1, none⟩ = some (.int .u16 0) := (hcr2 _ _ (by (try simp only [World.size_alloc, World.size_setCell]); omega)).trans (by with_reducible first | assumption | exact (World.cell?_alloc_lt _ _ _ (by omega)).trans (by assumption) | exact World.cell?_setCell_same _ _ _ (by assumption) | exact (World.cell?_setCell_other _ _ _ _ (by simp)).trans (by assumption) | exact (rcell_far _ _ _ _ (by dsimp only; omega)).trans ((rcell_far _ _ _ _ (by dsimp only; omega)).trans (by assumption)) | simp (disch := omega) [go_sem, *, List.getElem?_cons_zero, List.getElem?_cons_succ])
    have gzr2_2 : r2.cell? ⟨w.heap.size + 1, 2, none⟩ = some (.int .u16 0) := (hcr2 _ _ (by (try simp only [World.size_alloc, World.size_setCell]); omega)).trans (by with_reducible first | assumption | exact (World.cell?_alloc_lt _ _ _ (by omega)).trans (by assumption) | exact World.cell?_setCell_same _ _ _ (by assumption) | exact (World.cell?_setCell_other _ _ _ _ (by simp)).trans (by assumption) | exact (rcell_far _ _ _ _ (by dsimp only; omega)).trans ((rcell_far _ _ _ _ (by dsimp only; omega)).trans (by assumption)) | simp (disch := omega) [go_sem, *, List.getElem?_cons_zero, List.getElem?_cons_succ])
    have gzr2_3 : r2.cell? ⟨w.heap.size + 1, 3, none⟩ = some (.int .u16 0) := (hcr2 _ _ (by (try simp only [World.size_alloc, World.size_setCell]); omega)).trans (by with_reducible first | assumption | exact (World.cell?_alloc_lt _ _ _ (by omega)).trans (by assumption) | exact World.cell?_setCell_same _ _ _ (by assumption) | exact (World.cell?_setCell_other _ _ _ _ (by simp)).trans (by assumption) | exact (rcell_far _ _ _ _ (by dsimp only; omega)).trans ((rcell_far _ _ _ _ (by dsimp only; omega)).trans (by assumption)) | simp (disch := omega) [go_sem, *, List.getElem?_cons_zero, List.getElem?_cons_succ])
    have gzr2_4 : r2.cell? ⟨w.heap.size + 1, 4, none⟩ = some (.int .u16 0) := (hcr2 _ _ (by (try simp only [World.size_alloc, World.size_setCell]); omega)).trans (by with_reducible first | assumption | exact (World.cell?_alloc_lt _ _ _ (by omega)).trans (by assumption) | exact World.cell?_setCell_same _ _ _ (by assumption) | exact (World.cell?_setCell_other _ _ _ _ (by simp)).trans (by assumption) | exact (rcell_far _ _ _ _ (by dsimp only; omega)).trans ((rcell_far _ _ _ _ (by dsimp only; omega)).trans (by assumption)) | simp (disch := omega) [go_sem, *, List.getElem?_cons_zero, List.getElem?_cons_succ])
    have gzr2_5 : r2.cell? ⟨w.heap.size + 1, 5, none⟩ = some (.int .u16 0) := (hcr2 _ _ (by (try simp only [World.size_alloc, World.size_setCell]); omega)).trans (by with_reducible first | assumption | exact (World.cell?_alloc_lt _ _ _ (by omega)).trans (by assumption) | exact World.cell?_setCell_same _ _ _ (by assumption) | exact (World.cell?_setCell_other _ _ _ _ (by simp)).trans (by assumption) | exact (rcell_far _ _ _ _ (by dsimp only; omega)).trans ((rcell_far _ _ _ _ (by dsimp only; omega)).trans (by assumption)) | simp (disch := omega) [go_sem, *, List.getElem?_cons_zero, List.getElem?_cons_succ])
    go_wp2_with fail
    refine (rshift_any e f n he0 he1 hf0 hf1 h2 _).mono ?_
    rintro _ r3 ⟨rfl, hbr3⟩
    obtain ⟨hcr3, hfr3⟩ := bcell hbr3
    have hzr3 := hbr3.size
    try simp only [World.size_alloc, World.size_setCell, World.size_drew] at hzr3
    have hlr3w0 : w.heap.size < r3.heap.size := by omega
    have hlr3w1 : w.heap.size + 1 < r3.heap.size := by omega
    have hlr3r10 : r1.heap.size < r3.heap.size := by omega
    have hlr3r20 : r2.heap.size < r3.heap.size := by omega
    have gzr3_0 : r3.cell? ⟨w.heap.size + 1, 0, none⟩ = some (.int .u16 0) := (hcr3 _ _ (by (try simp only [World.size_alloc, World.size_setCell]); omega)).trans (by with_reducible first | assumption | exact (World.cell?_alloc_lt _ _ _ (by omega)).trans (by assumption) | exact World.cell?_setCell_same _ _ _ (by assumption) | exact (World.cell?_setCell_other _ _ _ _ (by simp)).trans (by assumption) | exact (rcell_far _ _ _ _ (by dsimp only; omega)).trans ((rcell_far _ _ _ _ (by dsimp only; omega)).trans (by assumption)) | simp (disch := omega) [go_sem, *, List.getElem?_cons_zero, List.getElem?_cons_succ])
    have gzr3_1 : r3.cell? ⟨w.heap.size + 1, 1, none⟩ = some (.int .u16 0) := (hcr3 _ _ (by (try simp only [World.size_alloc, World.size_setCell]); omega)).trans (by with_reducible first | assumption | exact (World.cell?_alloc_lt _ _ _ (by omega)).trans (by assumption) | exact World.cell?_setCell_same _ _ _ (by assumption) | exact (World.cell?_setCell_other _ _ _ _ (by simp)).trans (by assumption) | exact (rcell_far _ _ _ _ (by dsimp only; omega)).trans ((rcell_far _ _ _ _ (by dsimp only; omega)).trans (by assumption)) | simp (disch := omega) [go_sem, *, List.getElem?_cons_zero, List.getElem?_cons_succ])
    have gzr3_2 : r3.cell? ⟨w.heap.size + 1, 2, none⟩ = some (.int .u16 0) := (hcr3 _ _ (by (try simp only [World.size_alloc, World.size_setCell]); omega)).trans (by with_reducible first | assumption | exact (World.cell?_alloc_lt _ _ _ (by omega)).trans (by assumption) | exact World.cell?_setCell_same _ _ _ (by assumption) | exact (World.cell?_setCell_other _ _ _ _ (by simp)).trans (by assumption) | exact (rcell_far _ _ _ _ (by dsimp only; omega)).trans ((rcell_far _ _ _ _ (by dsimp only; omega)).trans (by assumption)) | simp (disch := omega) [go_sem, *, List.getElem?_cons_zero, List.getElem?_cons_succ])
    have gzr3_3 : r3.cell? ⟨w.heap.size + 1, 3, none⟩ = some (.int .u16 0) := (hcr3 _ _ (by (try simp only [World.size_alloc, World.size_setCell]); omega)).trans (by with_reducible first | assumption | exact (World.cell?_alloc_lt _ _ _ (by omega)).trans (by assumption) | exact World.cell?_setCell_same _ _ _ (by assumption) | exact (World.cell?_setCell_other _ _ _ _ (by simp)).trans (by assumption) | exact (rcell_far _ _ _ _ (by dsimp only; omega)).trans ((rcell_far _ _ _ _ (by dsimp only; omega)).trans (by assumption)) | simp (disch := omega) [go_sem, *, List.getElem?_cons_zero, List.getElem?_cons_succ])
    have gzr3_4 : r3.cell? ⟨w.heap.size + 1, 4, none⟩ = some (.int .u16 0) := (hcr3 _ _ (by (try simp only [World.size_alloc, World.size_setCell]); omega)).trans (by with_reducible first | assumption | exact (World.cell?_alloc_lt _ _ _ (by omega)).trans (by assumption) | exact World.cell?_setCell_same _ _ _ (by assumption) | exact (World.cell?_setCell_other _ _ _ _ (by simp)).trans (by assumption) | exact (rcell_far _ _ _ _ (by dsimp only; omega)).trans ((rcell_far _ _ _ _ (by dsimp only; omega)).trans (by assumption)) | simp (disch := omega) [go_sem, *, List.getElem?_cons_zero, List.getElem?_cons_succ])
    have gzr3_5 : r3.cell? ⟨w.heap.size + 1, 5, none⟩ = some (.int .u16 0) := (hcr3 _ _ (by (try simp only [World.size_alloc, World.size_setCell]); omega)).trans (by with_reducible first | assumption | exact (World.cell?_alloc_lt _ _ _ (by omega)).trans (by assumption) | exact World.cell?_setCell_same _ _ _ (by assumption) | exact (World.cell?_setCell_other _ _ _ _ (by simp)).trans (by assumption) | exact (rcell_far _ _ _ _ (by dsimp only; omega)).trans ((rcell_far _ _ _ _ (by dsimp only; omega)).trans (by assumption)) | simp (disch := omega) [go_sem, *, List.getElem?_cons_zero, List.getElem?_cons_succ])
    go_wp2
    refine bodyPost_ret (v := (.tuple #[(.agg #[.int .u16 (hi (shv (val a b) n)), .int .u16 (lo (shv (val a b) n)), .int .u16 (hi (shv (val c d) n)), .int .u16 (lo (shv (val c d) n)), .int .u16 (hi (shv (val e f) n)), .int .u16 (lo (shv (val e f) n))]), .bool ((sho (val a b) n) || (sho (val c d) n) || (sho (val e f) n))])) (by simp [results, Try.results40, go_sem, *]) rfl ⟨by rw [q0, q1], ?_⟩; exact (by repeat' (first | (with_reducible exact Below.refl _ _) | (with_reducible refine bl_set ?_ _ ?_) | (with_reducible refine bl_alloc ?_ _) | (with_reducible refine bl_drew ?_) | (with_reducible refine bl_via (by with_reducible assumption) ?_) | (with_reducible assumption) | omega | (simp only []; omega) | (simp; omega)))

set_option maxHeartbeats 1000000 in
theorem rmul_any (x y z u : Int) (hx0 : 0 ≤ x) (hx1 : x < 65536) (hy0 : 0 ≤ y) (hy1 : y < 65536) (hz0 : 0 ≤ z) (hz1 : z < 65536) (hu0 : 0 ≤ u) (hu1 : u < 65536) (w : World) :
    Calls Try.prog 61 #[(.agg #[.int .u16 (x), .int .u16 (y)]), (.agg #[.int .u16 (z), .int .u16 (u)])] w fun e w' => e = .returned (.agg #[.int .u16 (hi (mulv (val x y) (val z u))), .int .u16 (lo (mulv (val x y) (val z u)))]) ∧ Below w.heap.size w w' := by
  have k0 := val_lo x y
  have k1 := val_hi x y
  have k2 := val_lo z u
  have k3 := val_hi z u
  obtain ⟨p0, p1⟩ := mul_bd (val x y) (val z u) k0 k1 k2 k3
  obtain ⟨m0, m1⟩ := mulv_size (val x y) (val z u) k0 k1 k2 k3
  have em : rnd (val x y * val z u) 268435456 = mulv (val x y) (val z u) := rfl
  have EM := keep em
  clear em
  go_enter Try.func61, Try.ntmps61
  go_wp2_with fail
  have hecr1 := @Ext.cell
  refine wp_region_ext_tail 7 (by kernel_rfl) (by kernel_rfl) ?_
  simp only [List.take_succ_cons, List.take_zero, List.drop_succ_cons, List.drop_zero]
  repeat (first | go_big_quiet_skip | (go_big_quiet_want; go_big_quiet_op; first | go_big_quiet_on | (go_big_quiet_call ((first | fail | (go_at_call 12; exact ext_call (rvalue_any _ _ (by assumption) (by assumption) (by assumption) (by assumption) _)) | (go_at_call 73; exact ext_call (rround_any _ 268435456 (by omega) (by omega) (by omega) (by omega) _)) | (go_at_call 14; exact ext_call (rdouble_any _ (by rw [EM.out]; exact m0) (by rw [EM.out]; exact m1) _)))))))
  clear hecr1
  refine wpQuiet_nil ?_
  rintro r1 ⟨⟨_, hbr1⟩, rfl⟩
  obtain ⟨hcr1, hfr1⟩ := bcell hbr1
  have hzr1 := hbr1.size
  try simp only [World.size_alloc, World.size_setCell, World.size_drew] at hzr1
  have hlr1w0 : w.heap.size < r1.heap.size := by omega
  have hlr1w1 : w.heap.size + 1 < r1.heap.size := by omega
  have hlr1w2 : w.heap.size + 1 + 1 < r1.heap.size := by omega
  go_wp2
  refine bodyPost_ret (v := (.agg #[.int .u16 (hi (rnd (val x y * val z u) 268435456)), .int .u16 (lo (rnd (val x y * val z u) 268435456))])) (by simp [results, Try.results61, go_sem, *]) rfl ⟨by rw [EM.out], ?_⟩; exact (by repeat' (first | (with_reducible exact Below.refl _ _) | (with_reducible refine bl_set ?_ _ ?_) | (with_reducible refine bl_alloc ?_ _) | (with_reducible refine bl_drew ?_) | (with_reducible refine bl_via (by with_reducible assumption) ?_) | (with_reducible assumption) | omega | (simp only []; omega) | (simp; omega)))

set_option maxHeartbeats 1000000 in
theorem rscale_any (a b c d e f x y : Int) (ha0 : 0 ≤ a) (ha1 : a < 65536) (hb0 : 0 ≤ b) (hb1 : b < 65536) (hc0 : 0 ≤ c) (hc1 : c < 65536) (hd0 : 0 ≤ d) (hd1 : d < 65536) (he0 : 0 ≤ e) (he1 : e < 65536) (hf0 : 0 ≤ f) (hf1 : f < 65536) (hx0 : 0 ≤ x) (hx1 : x < 65536) (hy0 : 0 ≤ y) (hy1 : y < 65536) (w : World) :
    Calls Try.prog 39 #[(.agg #[.int .u16 (a), .int .u16 (b), .int .u16 (c), .int .u16 (d), .int .u16 (e), .int .u16 (f)]), (.agg #[.int .u16 (x), .int .u16 (y)])] w fun r w' => r = .returned (.agg #[.int .u16 (hi (mulv (val a b) (val x y))), .int .u16 (lo (mulv (val a b) (val x y))), .int .u16 (hi (mulv (val c d) (val x y))), .int .u16 (lo (mulv (val c d) (val x y))), .int .u16 (hi (mulv (val e f) (val x y))), .int .u16 (lo (mulv (val e f) (val x y)))]) ∧ Below w.heap.size w w' := by
  go_enter Try.func39, Try.ntmps39
  go_wp2_with fail
  have hecr1 := @Ext.cell
  refine wp_region_ext_tail 13 (by kernel_rfl) (by kernel_rfl) ?_
  simp only [List.take_succ_cons, List.take_zero, List.drop_succ_cons, List.drop_zero]
  repeat (first | go_big_quiet_skip | (go_big_quiet_want; go_big_quiet_op; first | go_big_quiet_on | (go_big_quiet_call ((first | fail | (go_at_call 61; exact ext_call (rmul_any _ _ _ _ (by assumption) (by assumption) (by assumption) (by assumption) (by assumption) (by assumption) (by assumption) (by assumption) _)))))))
  clear hecr1
  refine wpQuiet_nil ?_
  rintro r1 ⟨⟨_, hbr1⟩, rfl⟩
  obtain ⟨hcr1, hfr1⟩ := bcell hbr1
  have hzr1 := hbr1.size
  try simp only [World.size_alloc, World.size_setCell, World.size_drew] at hzr1
  have hlr1w0 : w.heap.size < r1.heap.size := by omega
  have hlr1w1 : w.heap.size + 1 < r1.heap.size := by omega
  have hlr1w2 : w.heap.size + 1 + 1 < r1.heap.size := by omega
  go_wp2
  refine bodyPost_ret (v := (.agg #[.int .u16 (hi (mulv (val a b) (val x y))), .int .u16 (lo (mulv (val a b) (val x y))), .int .u16 (hi (mulv (val c d) (val x y))), .int .u16 (lo (mulv (val c d) (val x y))), .int .u16 (hi (mulv (val e f) (val x y))), .int .u16 (lo (mulv (val e f) (val x y)))])) (by simp [results, Try.results39, go_sem, *]) rfl ⟨rfl, ?_⟩; exact (by repeat' (first | (with_reducible exact Below.refl _ _) | (with_reducible refine bl_set ?_ _ ?_) | (with_reducible refine bl_alloc ?_ _) | (with_reducible refine bl_drew ?_) | (with_reducible refine bl_via (by with_reducible assumption) ?_) | (with_reducible assumption) | omega | (simp only []; omega) | (simp; omega)))
end Go.Proofs.Ytpmocegfiniafaa
