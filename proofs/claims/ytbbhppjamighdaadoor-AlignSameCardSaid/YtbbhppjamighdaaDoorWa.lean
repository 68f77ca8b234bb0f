/- Contracts of the reference of layer 17 (Values, Exact, Dot, Of, Cross, Length) and of layer 16 (Root, Nearest). -/
import Derived.Test.YtbbhppjamighdaaDoorRa
import Derived.Test.YtbbhppjamighdaaDoorKd
import Derived.Test.YtbbhppjamighdaaDoorPc
namespace Go.Proofs.YtbbhppjamighdaaDoor
set_option linter.unusedSimpArgs false
set_option linter.unusedVariables false
open Go.RowKit

theorem rcell_far (w : World) (p a : Addr) (v : Value) (h : p.block ≠ a.block) : (w.setCell p v).cell? a = w.cell? a := World.cell?_setCell_other _ _ _ _ (fun e => h (congrArg Addr.block e))

set_option maxHeartbeats 400000 in
theorem rvalues_any (a b c d e f : Int) (ha0 : 0 ≤ a) (ha1 : a < 65536) (hb0 : 0 ≤ b) (hb1 : b < 65536) (hc0 : 0 ≤ c) (hc1 : c < 65536) (hd0 : 0 ≤ d) (hd1 : d < 65536) (he0 : 0 ≤ e) (he1 : e < 65536) (hf0 : 0 ≤ f) (hf1 : f < 65536) (w : World) :
    Calls Tryd.prog 30 #[(.agg #[.int .u16 (a), .int .u16 (b), .int .u16 (c), .int .u16 (d), .int .u16 (e), .int .u16 (f)])] w fun r w' => r = .returned (.agg #[.int .i64 (val a b), .int .i64 (val c d), .int .i64 (val e f)]) ∧ Below w.heap.size w w' := by
  go_enter Tryd.func30, Tryd.ntmps30
  go_wp2_with fail
  have hecr1 := @Ext.cell
  refine wp_region_ext_tail 10 (by kernel_rfl) (by kernel_rfl) ?_
  simp only [List.take_succ_cons, List.take_zero, List.drop_succ_cons, List.drop_zero]
  repeat (first | go_big_quiet_skip | (go_big_quiet_want; go_big_quiet_op; first | go_big_quiet_on | (go_big_quiet_call ((first | fail | (go_at_call 22; exact ext_call (rvalue_any _ _ (by assumption) (by assumption) (by assumption) (by assumption) _)))))))
  clear hecr1
  refine wpQuiet_nil ?_
  rintro r1 ⟨⟨_, hbr1⟩, rfl⟩
  obtain ⟨hcr1, hfr1⟩ := bcell hbr1
  have hzr1 := hbr1.size
  try simp only [World.size_alloc, World.size_setCell, World.size_drew] at hzr1
  have hlr1w0 : w.heap.size < r1.heap.size := by omega
  have hlr1w1 : w.heap.size + 1 < r1.heap.size := by omega
  go_wp2
  refine bodyPost_ret (v := (.agg #[.int .i64 (val a b), .int .i64 (val c d), .int .i64 (val e f)])) (by simp [results, Tryd.results30, go_sem, *]) rfl ⟨rfl, ?_⟩; exact (by repeat' (first | (with_reducible exact Below.refl _ _) | (with_reducible refine bl_set ?_ _ ?_) | (with_reducible refine bl_alloc ?_ _) | (with_reducible refine bl_drew ?_) | (with_reducible refine bl_via (by with_reducible assumption) ?_) | (with_reducible assumption) | omega | (simp only []; omega) | (simp; omega)))

set_option maxHeartbeats 1000000 in
theorem rexact_any (a b c d e f a' b' c' d' e' f' : Int) (ha0 : 0 ≤ a) (ha1 : a < 65536) (hb0 : 0 ≤ b) (hb1 : b < 65536) (hc0 : 0 ≤ c) (hc1 : c < 65536) (hd0 : 0 ≤ d) (hd1 : d < 65536) (he0 : 0 ≤ e) (he1 : e < 65536) (hf0 : 0 ≤ f) (hf1 : f < 65536) (ha'0 : 0 ≤ a') (ha'1 : a' < 65536) (hb'0 : 0 ≤ b') (hb'1 : b' < 65536) (hc'0 : 0 ≤ c') (hc'1 : c' < 65536) (hd'0 : 0 ≤ d') (hd'1 : d' < 65536) (he'0 : 0 ≤ e') (he'1 : e' < 65536) (hf'0 : 0 ≤ f') (hf'1 : f' < 65536) (w : World) :
    Calls Tryd.prog 50 #[(.agg #[.int .u16 (a), .int .u16 (b), .int .u16 (c), .int .u16 (d), .int .u16 (e), .int .u16 (f)]), (.agg #[.int .u16 (a'), .int .u16 (b'), .int .u16 (c'), .int .u16 (d'), .int .u16 (e'), .int .u16 (f')])] w fun r w' => r = .returned (.int .i64 (dot (val a b) (val c d) (val e f) (val a' b') (val c' d') (val e' f'))) ∧ Below w.heap.size w w' := by
  obtain ⟨⟨p0, p1⟩, ⟨p2, p3⟩, ⟨p4, p5⟩⟩ := dot_size (val a b) (val c d) (val e f) (val a' b') (val c' d') (val e' f') (val_lo _ _) (val_hi _ _) (val_lo _ _) (val_hi _ _) (val_lo _ _) (val_hi _ _) (val_lo _ _) (val_hi _ _) (val_lo _ _) (val_hi _ _) (val_lo _ _) (val_hi _ _)
  have ed : val a b * val a' b' + val c d * val c' d' + val e f * val e' f' = dot (val a b) (val c d) (val e f) (val a' b') (val c' d') (val e' f') := rfl
  have HD := keep ed
  clear ed
  go_enter Tryd.func50, Tryd.ntmps50
  go_wp2_with fail
  have hecr1 := @Ext.cell2
  refine wp_region_float2 4 _ _ _ _ _ (.cells #[.int .i64 0, .int .i64 0, .int .i64 0] 53) (.cells #[.int .i64 0, .int .i64 0, .int .i64 0] 53) (by kernel_rfl) (by kernel_rfl) rfl rfl rfl rfl rfl rfl rfl rfl (fun _ _ => by simp [go_sem]) (fun _ _ => by simp [go_sem]) (by kernel_rfl) (by kernel_rfl) (by kernel_rfl) rfl ?_
  apply Exists.intro
  refine ⟨fun W' => ?_, ?_⟩
  · simp only [List.take_succ_cons, List.take_zero]
    repeat (first | go_big_quiet_skip | (go_big_quiet_want; go_big_quiet_op; first | go_big_quiet_on | (go_big_quiet_call ((first | fail | (go_at_call 30; exact ext_call (rvalues_any _ _ _ _ _ _ (by assumption) (by assumption) (by assumption) (by assumption) (by assumption) (by assumption) (by assumption) (by assumption) (by assumption) (by assumption) (by assumption) (by assumption) _)))))))
    exact wpQuiet_nil rfl
  clear hecr1
  simp only [List.drop_succ_cons, List.drop_zero, Act.put, List.setIfInBounds_toArray, List.set_cons_zero, List.set_cons_succ]
  rintro B1 C1 r1 hbr1 ⟨hBr1, hDr1, hEr1⟩ ⟨hBcr1, hDcr1, hEcr1⟩ hner1
  have hnfr1 := Ne.symm hner1
  have hGr1_0 := block_cell hEr1 0
  have hGr1_1 := block_cell hEr1 1
  have hGr1_2 := block_cell hEr1 2
  have hFr1 := block_free hEr1
  have hGcr1_0 := block_cell hEcr1 0
  have hGcr1_1 := block_cell hEcr1 1
  have hGcr1_2 := block_cell hEcr1 2
  have hFcr1 := block_free hEcr1
  simp only [List.getElem?_toArray, List.getElem?_cons_zero, List.getElem?_cons_succ] at hGr1_0 hGr1_1 hGr1_2 hGcr1_0 hGcr1_1 hGcr1_2
  clear hEr1 hEcr1
  try simp only [World.size_alloc, World.size_setCell, World.size_drew] at hBr1
  try simp only [World.size_alloc, World.size_setCell, World.size_drew] at hBcr1
  obtain ⟨hcr1, hfr1⟩ := bcell hbr1
  have hzr1 := hbr1.size
  try simp only [World.size_alloc, World.size_setCell, World.size_drew] at hzr1
  have hlr1w0 : w.heap.size < r1.heap.size := by omega
  have hlr1w1 : w.heap.size + 1 < r1.heap.size := by omega
  go_wp2
  refine bodyPost_ret (v := .int .i64 (val a b * val a' b' + val c d * val c' d' + val e f * val e' f')) (by simp [results, Tryd.results50, go_sem, *]) rfl ⟨by rw [← HD.out], ?_⟩; exact (by repeat' (first | (with_reducible exact Below.refl _ _) | (with_reducible refine bl_set ?_ _ ?_) | (with_reducible refine bl_alloc ?_ _) | (with_reducible refine bl_drew ?_) | (with_reducible refine bl_via (by with_reducible assumption) ?_) | (with_reducible assumption) | omega | (simp only []; omega) | (simp; omega)))

set_option maxHeartbeats 1000000 in
theorem rdot_any (a b c d e f a' b' c' d' e' f' : Int) (ha0 : 0 ≤ a) (ha1 : a < 65536) (hb0 : 0 ≤ b) (hb1 : b < 65536) (hc0 : 0 ≤ c) (hc1 : c < 65536) (hd0 : 0 ≤ d) (hd1 : d < 65536) (he0 : 0 ≤ e) (he1 : e < 65536) (hf0 : 0 ≤ f) (hf1 : f < 65536) (ha'0 : 0 ≤ a') (ha'1 : a' < 65536) (hb'0 : 0 ≤ b') (hb'1 : b' < 65536) (hc'0 : 0 ≤ c') (hc'1 : c' < 65536) (hd'0 : 0 ≤ d') (hd'1 : d' < 65536) (he'0 : 0 ≤ e') (he'1 : e' < 65536) (hf'0 : 0 ≤ f') (hf'1 : f' < 65536) (w : World) :
    Calls Tryd.prog 21 #[(.agg #[.int .u16 (a), .int .u16 (b), .int .u16 (c), .int .u16 (d), .int .u16 (e), .int .u16 (f)]), (.agg #[.int .u16 (a'), .int .u16 (b'), .int .u16 (c'), .int .u16 (d'), .int .u16 (e'), .int .u16 (f')])] w fun r w' =>
      r = .returned (.tuple #[(.agg #[.int .u16 (hi (sat (rnd (dot (val a b) (val c d) (val e f) (val a' b') (val c' d') (val e' f')) 268435456) 268435455)), .int .u16 (lo (sat (rnd (dot (val a b) (val c d) (val e f) (val a' b') (val c' d') (val e' f')) 268435456) 268435455))]), .bool (outb (rnd (dot (val a b) (val c d) (val e f) (val a' b') (val c' d') (val e' f')) 268435456) 268435455)]) ∧ Below w.heap.size w w' := by
  obtain ⟨⟨p0, p1⟩, ⟨p2, p3⟩, ⟨p4, p5⟩⟩ := dot_size (val a b) (val c d) (val e f) (val a' b') (val c' d') (val e' f') (val_lo _ _) (val_hi _ _) (val_lo _ _) (val_hi _ _) (val_lo _ _) (val_hi _ _) (val_lo _ _) (val_hi _ _) (val_lo _ _) (val_hi _ _) (val_lo _ _) (val_hi _ _)
  have d0 : -4611686018427387904 ≤ dot (val a b) (val c d) (val e f) (val a' b') (val c' d') (val e' f') := by unfold dot; omega
  have d1 : dot (val a b) (val c d) (val e f) (val a' b') (val c' d') (val e' f') ≤ 4611686018427387904 := by unfold dot; omega
  go_enter Tryd.func21, Tryd.ntmps21
  go_wp2_with fail
  refine (rexact_any a b c d e f a' b' c' d' e' f' ha0 ha1 hb0 hb1 hc0 hc1 hd0 hd1 he0 he1 hf0 hf1 ha'0 ha'1 hb'0 hb'1 hc'0 hc'1 hd'0 hd'1 he'0 he'1 hf'0 hf'1 _).mono ?_
  rintro _ r1 ⟨rfl, hbr1⟩
  obtain ⟨hcr1, hfr1⟩ := bcell hbr1
  have hzr1 := hbr1.size
  try simp only [World.size_alloc, World.size_setCell, World.size_drew] at hzr1
  have hlr1w0 : w.heap.size < r1.heap.size := by omega
  have hlr1w1 : w.heap.size + 1 < r1.heap.size := by omega
  have hlr1w2 : w.heap.size + 1 + 1 < r1.heap.size := by omega
  go_wp2_with fail
  refine (rround_any (dot (val a b) (val c d) (val e f) (val a' b') (val c' d') (val e' f')) 268435456 d0 d1 (by omega) (by omega) _).mono ?_
  rintro _ r2 ⟨rfl, hbr2⟩
  obtain ⟨hcr2, hfr2⟩ := bcell hbr2
  have hzr2 := hbr2.size
  try simp only [World.size_alloc, World.size_setCell, World.size_drew] at hzr2
  have hlr2w0 : w.heap.size < r2.heap.size := by omega
  have hlr2w1 : w.heap.size + 1 < r2.heap.size := by omega
  have hlr2w2 : w.heap.size + 1 + 1 < r2.heap.size := by omega
  go_wp2_with fail
  refine (rclamp_any (rnd (dot (val a b) (val c d) (val e f) (val a' b') (val c' d') (val e' f')) 268435456) _).mono ?_
  rintro _ r3 ⟨rfl, hbr3⟩
  obtain ⟨hcr3, hfr3⟩ := bcell hbr3
  have hzr3 := hbr3.size
  try simp only [World.size_alloc, World.size_setCell, World.size_drew] at hzr3
  have hlr3w0 : w.heap.size < r3.heap.size := by omega
  have hlr3w1 : w.heap.size + 1 < r3.heap.size := by omega
  have hlr3w2 : w.heap.size + 1 + 1 < r3.heap.size := by omega
  go_wp2
  refine bodyPost_ret (v := .tuple #[(.agg #[.int .u16 (hi (sat (rnd (dot (val a b) (val c d) (val e f) (val a' b') (val c' d') (val e' f')) 268435456) 268435455)), .int .u16 (lo (sat (rnd (dot (val a b) (val c d) (val e f) (val a' b') (val c' d') (val e' f')) 268435456) 268435455))]), .bool (outb (rnd (dot (val a b) (val c d) (val e f) (val a' b') (val c' d') (val e' f')) 268435456) 268435455)]) (by simp [results, Tryd.results21, go_sem, *]) rfl ⟨rfl, ?_⟩; exact (by repeat' (first | (with_reducible exact Below.refl _ _) | (with_reducible refine bl_set ?_ _ ?_) | (with_reducible refine bl_alloc ?_ _) | (with_reducible refine bl_drew ?_) | (with_reducible refine bl_via (by with_reducible assumption) ?_) | (with_reducible assumption) | omega | (simp only []; omega) | (simp; omega)))

set_option maxHeartbeats 1000000 in
theorem rof_any (x y z : Int) (w : World) :
    Calls Tryd.prog 89 #[.int .i64 x, .int .i64 y, .int .i64 z] w fun r w' => r = .returned (.tuple #[(.agg #[.int .u16 (hi (sat x 268435455)), .int .u16 (lo (sat x 268435455)), .int .u16 (hi (sat y 268435455)), .int .u16 (lo (sat y 268435455)), .int .u16 (hi (sat z 268435455)), .int .u16 (lo (sat z 268435455))]), .bool (outb x 268435455 || outb y 268435455 || outb z 268435455)]) ∧ Below w.heap.size w w' := by
  cases q0 : outb x 268435455 <;> cases q1 : outb y 268435455
  all_goals
    go_enter Tryd.func89, Tryd.ntmps89
    go_wp2_with fail
    refine (rclamp_any x _).mono ?_
    rintro _ r1 ⟨rfl, hbr1⟩
    obtain ⟨hcr1, hfr1⟩ := bcell hbr1
    have hzr1 := hbr1.size
    try simp only [World.size_alloc, World.size_setCell, World.size_drew] at hzr1
    have hlr1w0 : w.heap.size < r1.heap.size := by omega
    have gr1_0 : r1.cell? ⟨w.heap.size, 0, none⟩ = some (.int .u16 0) := (hcr1 _ _ (by (try simp only [World.size_alloc, World.size_setCell]); omega)).trans (by with_reducible first | assumption | exact (World.cell?_alloc_lt _ _ _ (by omega)).trans (by assumption) | exact World.cell?_setCell_same _ _ _ (by assumption) | exact (World.cell?_setCell_other _ _ _ _ (by simp)).trans (by assumption) | exact (rcell_far _ _ _ _ (by dsimp only; omega)).trans ((rcell_far _ _ _ _ (by dsimp only; omega)).trans (by assumption)) | simp (disch := omega) [go_sem, *, List.getElem?_cons_zero, List.getElem?_cons_succ])
    have gr1_1 : r1.cell? ⟨w.heap.size, 1, none⟩ = some (.int .u16 0) := (hcr1 _ _ (by (try simp only [World.size_alloc, World.size_setCell]); omega)).trans (by with_reducible first | assumption | exact (World.cell?_alloc_lt _ _ _ (by omega)).trans (by assumption) | exact World.cell?_setCell_same _ _ _ (by assumption) | exact (World.cell?_setCell_other _ _ _ _ (by simp)).trans (by assumption) | exact (rcell_far _ _ _ _ (by dsimp only; omega)).trans ((rcell_far _ _ _ _ (by dsimp only; omega)).trans (by assumption)) | simp (disch := omega) [go_sem, *, List.getElem?_cons_zero, List.getElem?_cons_succ])
    have gr1_2 : r1.cell? ⟨w.heap.size, 2, none⟩ = some (.int .u16 0) := (hcr1 _ _ (by (try simp only [World.size_alloc, World.size_setCell]); omega)).trans (by with_reducible first | assumption | exact (World.cell?_alloc_lt _ _ _ (by omega)).trans (by assumption) | exact World.cell?_setCell_same _ _ _ (by assumption) | exact (World.cell?_setCell_other _ _ _ _ (by simp)).trans (by assumption) | exact (rcell_far _ _ _ _ (by dsimp only; omega)).trans ((rcell_far _ _ _ _ (by dsimp only; omega)).trans (by assumption)) | simp (disch := omega) [go_sem, *, List.getElem?_cons_zero, List.getElem?_cons_succ])
    have gr1_3 : r1.cell? ⟨w.heap.size, 3, none⟩ = some (.int .u16 0) := (hcr1 _ _ (by (try simp only [World.size_alloc, World.size_setCell]); omega)).trans (by with_reducible first | assumption | exact (World.cell?_alloc_lt _ _ _ (by omega)).trans (by assumption) | exact World.cell?_setCell_same _ _ _ (by assumption) | exact (World.cell?_setCell_other _ _ _ _ (by simp)).trans (by assumption) | exact (rcell_far _ _ _ _ (by dsimp only; omega)).trans ((rcell_far _ _ _ _ (by dsimp only; omega)).trans (by assumption)) | simp (disch := omega) [go_sem, *, List.getElem?_cons_zero, List.getElem?_cons_succ])
    have gr1_4 : r1.cell? ⟨w.heap.size, 4, none⟩ = some (.int .u16 0) := (hcr1 _ _ (by (try simp only [World.size_alloc, World.size_setCell]); omega)).trans (by with_reducible first | assumption | exact (World.cell?_alloc_lt _ _ _ (by omega)).trans (by assumption) | exact World.cell?_setCell_same _ _ _ (by assumption) | exact (World.cell?_setCell_other _ _ _ _ (by simp)).trans (by assumption) | exact (rcell_far _ _ _ _ (by dsimp only; omega)).trans ((rcell_far _ _ _ _ (by dsimp only; omega)).trans (by assumption)) | simp (disch := omega) [go_sem, *, List.getElem?_cons_zero, List.getElem?_cons_succ])
    have gr1_5 : r1.cell? ⟨w.heap.size, 5, none⟩ = some (.int .u16 0) := (hcr1 _ _ (by (try simp only [World.size_alloc, World.size_setCell]); omega)).trans (by with_reducible first | assumption | exact (World.cell?_alloc_lt _ _ _ (by omega)).trans (by assumption) | exact World.cell?_setCell_same _ _ _ (by assumption) | exact (World.cell?_setCell_other _ _ _ _ (by simp)).trans (by assumption) | exact (rcell_far _ _ _ _ (by dsimp only; omega)).trans ((rcell_far _ _ _ _ (by dsimp only; omega)).trans (by assumption)) | simp (disch := omega) [go_sem, *, List.getElem?_cons_zero, List.getElem?_cons_succ])
    go_wp2_with fail
    refine (rclamp_any y _).mono ?_
    rintro _ r2 ⟨rfl, hbr2⟩
    obtain ⟨hcr2, hfr2⟩ := bcell hbr2
    have hzr2 := hbr2.size
    try simp only [World.size_alloc, World.size_setCell, World.size_drew] at hzr2
    have hlr2w0 : w.heap.size < r2.heap.size := by omega
    have hlr2r10 : r1.heap.size < r2.heap.size := by omega
    have gr2_0 : r2.cell? ⟨w.heap.size, 0, none⟩ = some (.int .u16 0) := (hcr2 _ _ (by (try simp only [World.size_alloc, World.size_setCell]); omega)).trans (by with_reducible first | assumption | exact (World.cell?_alloc_lt _ _ _ (by omega)).trans (by assumption) | exact World.cell?_setCell_same _ _ _ (by assumption) | exact (World.cell?_setCell_other _ _ _ _ (by simp)).trans (by assumption) | exact (rcell_far _ _ _ _ (by dsimp only; omega)).trans ((rcell_far _ _ _ _ (by dsimp only; omega)).trans (by assumption)) | simp (disch := omega) [go_sem, *, List.getElem?_cons_zero, List.getElem?_cons_succ])
    have gr2_1 : r2.cell? ⟨w.heap.size, 1, none⟩ = some (.int .u16 0) := (hcr2 _ _ (by (try simp only [World.size_alloc, World.size_setCell]); omega)).trans (by with_reducible first | assumption | exact (World.cell?_alloc_lt _ _ _ (by omega)).trans (by assumption) | exact World.cell?_setCell_same _ _ _ (by assumption) | exact (World.cell?_setCell_other _ _ _ _ (by simp)).trans (by assumption) | exact (rcell_far _ _ _ _ (by dsimp only; omega)).trans ((rcell_far _ _ _ _ (by dsimp only; omega)).trans (by assumption)) | simp (disch := omega) [go_sem, *, List.getElem?_cons_zero, List.getElem?_cons_succ])
    have gr2_2 : r2.cell? ⟨w.heap.size, 2, none⟩ = some (.int .u16 0) := (hcr2 _ _ (by (try simp only [World.size_alloc, World.size_setCell]); omega)).trans (by with_reducible first | assumption | exact (World.cell?_alloc_lt _ _ _ (by omega)).trans (by assumption) | exact World.cell?_setCell_same _ _ _ (by assumption) | exact (World.cell?_setCell_other _ _ _ _ (by simp)).trans (by assumption) | exact (rcell_far _ _ _ _ (by dsimp only; omega)).trans ((rcell_far _ _ _ _ (by dsimp only; omega)).trans (by assumption)) | simp (disch := omega) [go_sem, *, List.getElem?_cons_zero, List.getElem?_cons_succ])
    have gr2_3 : r2.cell? ⟨w.heap.size, 3, none⟩ = some (.int .u16 0) := (hcr2 _ _ (by (try simp only [World.size_alloc, World.size_setCell]); omega)).trans (by with_reducible first | assumption | exact (World.cell?_alloc_lt _ _ _ (by omega)).trans (by assumption) | exact World.cell?_setCell_same _ _ _ (by assumption) | exact (World.cell?_setCell_other _ _ _ _ (by simp)).trans (by assumption) | exact (rcell_far _ _ _ _ (by dsimp only; omega)).trans ((rcell_far _ _ _ _ (by dsimp only; omega)).trans (by assumption)) | simp (disch := omega) [go_sem, *, List.getElem?_cons_zero, List.getElem?_cons_succ])
    have gr2_4 : r2.cell? ⟨w.heap.size, 4, none⟩ = some (.int .u16 0) := (hcr2 _ _ (by (try simp only [World.size_alloc, World.size_setCell]); omega)).trans (by with_reducible first | assumption | exact (World.cell?_alloc_lt _ _ _ (by omega)).trans (by assumption) | exact World.cell?_setCell_same _ _ _ (by assumption) | exact (World.cell?_setCell_other _ _ _ _ (by simp)).trans (by assumption) | exact (rcell_far _ _ _ _ (by dsimp only; omega)).trans ((rcell_far _ _ _ _ (by dsimp only; omega)).trans (by assumption)) | simp (disch := omega) [go_sem, *, List.getElem?_cons_zero, List.getElem?_cons_succ])
    have gr2_5 : r2.cell? ⟨w.heap.size, 5, none⟩ = some (.int .u16 0) := (hcr2 _ _ (by (try simp only [World.size_alloc, World.size_setCell]); omega)).trans (by with_reducible first | assumption | exact (World.cell?_alloc_lt _ _ _ (by omega)).trans (by assumption) | exact World.cell?_setCell_same _ _ _ (by assumption) | exact (World.cell?_setCell_other _ _ _ _ (by simp)).trans (by assumption) | exact (rcell_far _ _ _ _ (by dsimp only; omega)).trans ((rcell_far _ _ _ _ (by dsimp only; omega)).trans (by assumption)) | simp (disch := omega) [go_sem, *, List.getElem?_cons_zero, List.getElem?_cons_succ])
    go_wp2_with fail
    refine (rclamp_any z _).mono ?_
    rintro _ r3 ⟨rfl, hbr3⟩
    obtain ⟨hcr3, hfr3⟩ := bcell hbr3
    have hzr3 := hbr3.size
    try simp only [World.size_alloc, World.size_setCell, World.size_drew] at hzr3
    have hlr3w0 : w.heap.size < r3.heap.size := by omega
    have hlr3r10 : r1.heap.size < r3.heap.size := by omega
    have hlr3r20 : r2.heap.size < r3.heap.size := by omega
    have gr3_0 : r3.cell? ⟨w.heap.size, 0, none⟩ = some (.int .u16 0) := (hcr3 _ _ (by (try simp only [World.size_alloc, World.size_setCell]); omega)).trans (by with_reducible first | assumption | exact (World.cell?_alloc_lt _ _ _ (by omega)).trans (by assumption) | exact World.cell?_setCell_same _ _ _ (by assumption) | exact (World.cell?_setCell_other _ _ _ _ (by simp)).trans (by assumption) | exact (rcell_far _ _ _ _ (by dsimp only; omega)).trans ((rcell_far _ _ _ _ (by dsimp only; omega)).trans (by assumption)) | simp (disch := omega) [go_sem, *, List.getElem?_cons_zero, List.getElem?_cons_succ])
    have gr3_1 : r3.cell? ⟨w.heap.size, 1, none⟩ = some (.int .u16 0) := (hcr3 _ _ (by (try simp only [World.size_alloc, World.size_setCell]); omega)).trans (by with_reducible first | assumption | exact (World.cell?_alloc_lt _ _ _ (by omega)).trans (by assumption) | exact World.cell?_setCell_same _ _ _ (by assumption) | exact (World.cell?_setCell_other _ _ _ _ (by simp)).trans (by assumption) | exact (rcell_far _ _ _ _ (by dsimp only; omega)).trans ((rcell_far _ _ _ _ (by dsimp only; omega)).trans (by assumption)) | simp (disch := omega) [go_sem, *, List.getElem?_cons_zero, List.getElem?_cons_succ])
    have gr3_2 : r3.cell? ⟨w.heap.size, 2, none⟩ = some (.int .u16 0) := (hcr3 _ _ (by (try simp only [World.size_alloc, World.size_setCell]); omega)).trans (by with_reducible first | assumption | exact (World.cell?_alloc_lt _ _ _ (by omega)).trans (by assumption) | exact World.cell?_setCell_same _ _ _ (by assumption) | exact (World.cell?_setCell_other _ _ _ _ (by simp)).trans (by assumption) | exact (rcell_far _ _ _ _ (by dsimp only; omega)).trans ((rcell_far _ _ _ _ (by dsimp only; omega)).trans (by assumption)) | simp (disch := omega) [go_sem, *, List.getElem?_cons_zero, List.getElem?_cons_succ])
    have gr3_3 : r3.cell? ⟨w.heap.size, 3, none⟩ = some (.int .u16 0) := (hcr3 _ _ (by (try simp only [World.size_alloc, World.size_setCell]); omega)).trans (by with_reducible first | assumption | exact (World.cell?_alloc_lt _ _ _ (by omega)).trans (by assumption) | exact World.cell?_setCell_same _ _ _ (by assumption) | exact (World.cell?_setCell_other _ _ _ _ (by simp)).trans (by assumption) | exact (rcell_far _ _ _ _ (by dsimp only; omega)).trans ((rcell_far _ _ _ _ (by dsimp only; omega)).trans (by assumption)) | simp (disch := omega) [go_sem, *, List.getElem?_cons_zero, List.getElem?_cons_succ])
    have gr3_4 : r3.cell? ⟨w.heap.size, 4, none⟩ = some (.int .u16 0) := (hcr3 _ _ (by (try simp only [World.size_alloc, World.size_setCell]); omega)).trans (by with_reducible first | assumption | exact (World.cell?_alloc_lt _ _ _ (by omega)).trans (by assumption) | exact World.cell?_setCell_same _ _ _ (by assumption) | exact (World.cell?_setCell_other _ _ _ _ (by simp)).trans (by assumption) | exact (rcell_far _ _ _ _ (by dsimp only; omega)).trans ((rcell_far _ _ _ _ (by dsimp only; omega)).trans (by assumption)) | simp (disch := omega) [go_sem, *, List.getElem?_cons_zero, List.getElem?_cons_succ])
    have gr3_5 : r3.cell? ⟨w.heap.size, 5, none⟩ = some (.int .u16 0) := (hcr3 _ _ (by (try simp only [World.size_alloc, World.size_setCell]); omega)).trans (by with_reducible first | assumption | exact (World.cell?_alloc_lt _ _ _ (by omega)).trans (by assumption) | exact World.cell?_setCell_same _ _ _ (by assumption) | exact (World.cell?_setCell_other _ _ _ _ (by simp)).trans (by assumption) | exact (rcell_far _ _ _ _ (by dsimp only; omega)).trans ((rcell_far _ _ _ _ (by dsimp only; omega)).trans (by assumption)) | simp (disch := omega) [go_sem, *, List.getElem?_cons_zero, List.getElem?_cons_succ])
    go_wp2
    refine bodyPost_ret (v := (.tuple #[(.agg #[.int .u16 (hi (sat x 268435455)), .int .u16 (lo (sat x 268435455)), .int .u16 (hi (sat y 268435455)), .int .u16 (lo (sat y 268435455)), .int .u16 (hi (sat z 268435455)), .int .u16 (lo (sat z 268435455))]), .bool (outb x 268435455 || outb y 268435455 || outb z 268435455)])) (by simp [results, Tryd.results89, go_sem, *]) rfl ⟨by rw [q0, q1], ?_⟩; exact (by repeat' (first | (with_reducible exact Below.refl _ _) | (with_reducible refine bl_set ?_ _ ?_) | (with_reducible refine bl_alloc ?_ _) | (with_reducible refine bl_drew ?_) | (with_reducible refine bl_via (by with_reducible assumption) ?_) | (with_reducible assumption) | omega | (simp only []; omega) | (simp; omega)))

set_option maxRecDepth 100000 in
set_option maxHeartbeats 4000000 in
theorem rcross_any (a b c d e f a' b' c' d' e' f' : Int) (ha0 : 0 ≤ a) (ha1 : a < 65536) (hb0 : 0 ≤ b) (hb1 : b < 65536) (hc0 : 0 ≤ c) (hc1 : c < 65536) (hd0 : 0 ≤ d) (hd1 : d < 65536) (he0 : 0 ≤ e) (he1 : e < 65536) (hf0 : 0 ≤ f) (hf1 : f < 65536) (ha'0 : 0 ≤ a') (ha'1 : a' < 65536) (hb'0 : 0 ≤ b') (hb'1 : b' < 65536) (hc'0 : 0 ≤ c') (hc'1 : c' < 65536) (hd'0 : 0 ≤ d') (hd'1 : d' < 65536) (he'0 : 0 ≤ e') (he'1 : e' < 65536) (hf'0 : 0 ≤ f') (hf'1 : f' < 65536) (w : World) :
    Calls Tryd.prog 76 #[(.agg #[.int .u16 (a), .int .u16 (b), .int .u16 (c), .int .u16 (d), .int .u16 (e), .int .u16 (f)]), (.agg #[.int .u16 (a'), .int .u16 (b'), .int .u16 (c'), .int .u16 (d'), .int .u16 (e'), .int .u16 (f')])] w fun r w' => r = .returned (.tuple #[(.agg #[.int .u16 (hi (sat (rnd (val c d * val e' f' - val e f * val c' d') 268435456) 268435455)), .int .u16 (lo (sat (rnd (val c d * val e' f' - val e f * val c' d') 268435456) 268435455)), .int .u16 (hi (sat (rnd (val e f * val a' b' - val a b * val e' f') 268435456) 268435455)), .int .u16 (lo (sat (rnd (val e f * val a' b' - val a b * val e' f') 268435456) 268435455)), .int .u16 (hi (sat (rnd (val a b * val c' d' - val c d * val a' b') 268435456) 268435455)), .int .u16 (lo (sat (rnd (val a b * val c' d' - val c d * val a' b') 268435456) 268435455))]), .bool ((outb (rnd (val c d * val e' f' - val e f * val c' d') 268435456) 268435455) || (outb (rnd (val e f * val a' b' - val a b * val e' f') 268435456) 268435455) || (outb (rnd (val a b * val c' d' - val c d * val a' b') 268435456) 268435455))]) ∧ Below w.heap.size w w' := by
  have := mul_bd (val c d) (val e' f') (val_lo _ _) (val_hi _ _) (val_lo _ _) (val_hi _ _)
  obtain ⟨_, _⟩ := this
  have := mul_bd (val e f) (val c' d') (val_lo _ _) (val_hi _ _) (val_lo _ _) (val_hi _ _)
  obtain ⟨_, _⟩ := this
  have := mul_bd (val e f) (val a' b') (val_lo _ _) (val_hi _ _) (val_lo _ _) (val_hi _ _)
  obtain ⟨_, _⟩ := this
  have := mul_bd (val a b) (val e' f') (val_lo _ _) (val_hi _ _) (val_lo _ _) (val_hi _ _)
  obtain ⟨_, _⟩ := this
  have := mul_bd (val a b) (val c' d') (val_lo _ _) (val_hi _ _) (val_lo _ _) (val_hi _ _)
  obtain ⟨_, _⟩ := this
  have := mul_bd (val c d) (val a' b') (val_lo _ _) (val_hi _ _) (val_lo _ _) (val_hi _ _)
  obtain ⟨_, _⟩ := this
  go_enter Tryd.func76, Tryd.ntmps76
  go_wp2_with fail
  have hecr1 := @Ext.cell2
  refine wp_region_float2 4 _ _ _ _ _ (.cells #[.int .i64 0, .int .i64 0, .int .i64 0] 53) (.cells #[.int .i64 0, .int .i64 0, .int .i64 0] 53) (by kernel_rfl) (by kernel_rfl) rfl rfl rfl rfl rfl rfl rfl rfl (fun _ _ => by simp [go_sem]) (fun _ _ => by simp [go_sem]) (by kernel_rfl) (by kernel_rfl) (by kernel_rfl) rfl ?_
  apply Exists.intro
  refine ⟨fun W' => ?_, ?_⟩
  · simp only [List.take_succ_cons, List.take_zero]
    repeat (first | go_big_quiet_skip | (go_big_quiet_want; go_big_quiet_op; first | go_big_quiet_on | (go_big_quiet_call ((first | fail | (go_at_call 30; exact ext_call (rvalues_any _ _ _ _ _ _ (by assumption) (by assumption) (by assumption) (by assumption) (by assumption) (by assumption) (by assumption) (by assumption) (by assumption) (by assumption) (by assumption) (by assumption) _)))))))
    exact wpQuiet_nil rfl
  clear hecr1
  simp only [List.drop_succ_cons, List.drop_zero, Act.put, List.setIfInBounds_toArray, List.set_cons_zero, List.set_cons_succ]
  rintro B1 C1 r1 hbr1 ⟨hBr1, hDr1, hEr1⟩ ⟨hBcr1, hDcr1, hEcr1⟩ hner1
  have hnfr1 := Ne.symm hner1
  have hGr1_0 := block_cell hEr1 0
  have hGr1_1 := block_cell hEr1 1
  have hGr1_2 := block_cell hEr1 2
  have hFr1 := block_free hEr1
  have hGcr1_0 := block_cell hEcr1 0
  have hGcr1_1 := block_cell hEcr1 1
  have hGcr1_2 := block_cell hEcr1 2
  have hFcr1 := block_free hEcr1
  simp only [List.getElem?_toArray, List.getElem?_cons_zero, List.getElem?_cons_succ] at hGr1_0 hGr1_1 hGr1_2 hGcr1_0 hGcr1_1 hGcr1_2
  clear hEr1 hEcr1
  try simp only [World.size_alloc, World.size_setCell, World.size_drew] at hBr1
  try simp only [World.size_alloc, World.size_setCell, World.size_drew] at hBcr1
  obtain ⟨hcr1, hfr1⟩ := bcell hbr1
  have hzr1 := hbr1.size
  try simp only [World.size_alloc, World.size_setCell, World.size_drew] at hzr1
  have hlr1w0 : w.heap.size < r1.heap.size := by omega
  have hlr1w1 : w.heap.size + 1 < r1.heap.size := by omega
  have hlr1w2 : w.heap.size + 1 + 1 < r1.heap.size := by omega
  go_wp2_with fail
  refine (rround_any (val c d * val e' f' - val e f * val c' d') 268435456 (by omega) (by omega) (by omega) (by omega) _).mono ?_
  rintro _ r2 ⟨rfl, hbr2⟩
  obtain ⟨hcr2, hfr2⟩ := bcell hbr2
  have hzr2 := hbr2.size
  try simp only [World.size_alloc, World.size_setCell, World.size_drew] at hzr2
  have hlr2w0 : w.heap.size < r2.heap.size := by omega
  have hlr2w1 : w.heap.size + 1 < r2.heap.size := by omega
  have hlr2w2 : w.heap.size + 1 + 1 < r2.heap.size := by omega
  have hlr2B1 : B1 < r2.heap.size := by omega
  have hlr2C1 : C1 < r2.heap.size := by omega
  go_wp2_with fail
  refine (rround_any (val e f * val a' b' - val a b * val e' f') 268435456 (by omega) (by omega) (by omega) (by omega) _).mono ?_
  rintro _ r3 ⟨rfl, hbr3⟩
  obtain ⟨hcr3, hfr3⟩ := bcell hbr3
  have hzr3 := hbr3.size
  try simp only [World.size_alloc, World.size_setCell, World.size_drew] at hzr3
  have hlr3w0 : w.heap.size < r3.heap.size := by omega
  have hlr3w1 : w.heap.size + 1 < r3.heap.size := by omega
  have hlr3w2 : w.heap.size + 1 + 1 < r3.heap.size := by omega
  have hlr3B1 : B1 < r3.heap.size := by omega
  have hlr3C1 : C1 < r3.heap.size := by omega
  go_wp2_with fail
  refine (rround_any (val a b * val c' d' - val c d * val a' b') 268435456 (by omega) (by omega) (by omega) (by omega) _).mono ?_
  rintro _ r4 ⟨rfl, hbr4⟩
  obtain ⟨hcr4, hfr4⟩ := bcell hbr4
  have hzr4 := hbr4.size
  try simp only [World.size_alloc, World.size_setCell, World.size_drew] at hzr4
  have hlr4w0 : w.heap.size < r4.heap.size := by omega
  have hlr4w1 : w.heap.size + 1 < r4.heap.size := by omega
  have hlr4w2 : w.heap.size + 1 + 1 < r4.heap.size := by omega
  have hlr4B1 : B1 < r4.heap.size := by omega
  have hlr4C1 : C1 < r4.heap.size := by omega
  go_wp2_with fail
  refine (rof_any (rnd (val c d * val e' f' - val e f * val c' d') 268435456) (rnd (val e f * val a' b' - val a b * val e' f') 268435456) (rnd (val a b * val c' d' - val c d * val a' b') 268435456) _).mono ?_
  rintro _ r5 ⟨rfl, hbr5⟩
  obtain ⟨hcr5, hfr5⟩ := bcell hbr5
  have hzr5 := hbr5.size
  try simp only [World.size_alloc, World.size_setCell, World.size_drew] at hzr5
  have hlr5w0 : w.heap.size < r5.heap.size := by omega
  have hlr5w1 : w.heap.size + 1 < r5.heap.size := by omega
  have hlr5w2 : w.heap.size + 1 + 1 < r5.heap.size := by omega
  have hlr5B1 : B1 < r5.heap.size := by omega
  have hlr5C1 : C1 < r5.heap.size := by omega
  go_wp2
  refine bodyPost_ret (v := (.tuple #[(.agg #[.int .u16 (hi (sat (rnd (val c d * val e' f' - val e f * val c' d') 268435456) 268435455)), .int .u16 (lo (sat (rnd (val c d * val e' f' - val e f * val c' d') 268435456) 268435455)), .int .u16 (hi (sat (rnd (val e f * val a' b' - val a b * val e' f') 268435456) 268435455)), .int .u16 (lo (sat (rnd (val e f * val a' b' - val a b * val e' f') 268435456) 268435455)), .int .u16 (hi (sat (rnd (val a b * val c' d' - val c d * val a' b') 268435456) 268435455)), .int .u16 (lo (sat (rnd (val a b * val c' d' - val c d * val a' b') 268435456) 268435455))]), .bool ((outb (rnd (val c d * val e' f' - val e f * val c' d') 268435456) 268435455) || (outb (rnd (val e f * val a' b' - val a b * val e' f') 268435456) 268435455) || (outb (rnd (val a b * val c' d' - val c d * val a' b') 268435456) 268435455))])) (by simp [results, Tryd.results76, go_sem, *]) rfl ⟨rfl, ?_⟩; exact (by repeat' (first | (with_reducible exact Below.refl _ _) | (with_reducible refine bl_set ?_ _ ?_) | (with_reducible refine bl_alloc ?_ _) | (with_reducible refine bl_drew ?_) | (with_reducible refine bl_via (by with_reducible assumption) ?_) | (with_reducible assumption) | omega | (simp only []; omega) | (simp; omega)))

theorem half_bd (l h : Int) (h0 : 0 ≤ l) (h1 : l + 1 < h) (h2 : h ≤ 1073741824) : l < (l + h) / 2 ∧ (l + h) / 2 < h := by omega
theorem sq_bd30 (x : Int) (h0 : 0 ≤ x) (h1 : x ≤ 1073741824) : 0 ≤ x * x ∧ x * x ≤ 1152921504606846976 :=
  ⟨Int.mul_nonneg h0 h0, sq_le x 1073741824 h0 h1⟩
set_option maxHeartbeats 1000000 in
theorem rroot_any (n : Int) (h0 : 0 ≤ n) (h1 : n < 1152921504606846976) (w : World) :
    Calls Tryd.prog 87 #[.int .i64 n] w fun e w' => e = .returned (.int .i64 (isq n)) ∧ w = w' := by
  have hun := fun r a b c => isq_unique n r a b c
  have HU := keep hun
  clear hun
  go_enter Tryd.func87, Tryd.ntmps87
  go_wp2_with fail
  go_loop [3, 4, 5] (fun x y _ => ∃ l h : Int, 0 ≤ l ∧ l < h ∧ h ≤ 1073741824 ∧ x = .int .i64 l ∧ y = .int .i64 h ∧ Hid (l * l ≤ n ∧ n < h * h)) (fun x y _ => (intOf y - intOf x).toNat)
  case atStart => exact ⟨0, 1073741824, by omega, by omega, by omega, rfl, rfl, ⟨by omega, by omega⟩⟩
  case round =>
    obtain ⟨l, h, hl0, hlh, hh1, rfl, rfl, HR⟩ := hrel
    by_cases hlt : 1 < h - l
    · obtain ⟨m0, m1⟩ := half_bd l h hl0 (by omega) hh1
      obtain ⟨q0, q1⟩ := sq_bd30 ((l + h) / 2) (by omega) (by omega)
      by_cases hq : (l + h) / 2 * ((l + h) / 2) ≤ n
      · go_wp2
        go_round
        case rel => exact ⟨(l + h) / 2, h, by omega, by omega, by omega, rfl, rfl, ⟨hq, HR.out.2⟩⟩
        case measure => simp [intOf]; omega
      · go_wp2
        go_round
        case rel => exact ⟨l, (l + h) / 2, by omega, by omega, by omega, rfl, rfl, ⟨HR.out.1, by omega⟩⟩
        case measure => simp [intOf]; omega
    · obtain rfl : h = l + 1 := by omega
      go_wp2
      go_ret
      exact ⟨ret_int (HU.out l hl0 HR.out.1 HR.out.2).symm, rfl⟩

set_option maxHeartbeats 400000 in
theorem rnear_any (n : Int) (h0 : 0 ≤ n) (h1 : n < 1152921504606846976) (w : World) :
    Calls Tryd.prog 88 #[.int .i64 n] w fun e w' => e = .returned (.int .i64 (nsq n)) ∧ w = w' := by
  obtain ⟨i0, i1, i2⟩ := isq_spec n h0
  have i3 := isq_le n 1073741823 h0 (by omega) (by omega)
  have i4 := Int.mul_nonneg i0 i0
  clear i2
  by_cases hq : isq n * isq n + isq n < n
  · have hs : nsq n = isq n + 1 := by unfold nsq; rw [if_pos hq]
    rw [hs]; clear hs
    go_enter Tryd.func88, Tryd.ntmps88
    go_wp2_with fail
    refine (rroot_any n h0 h1 _).mono ?_
    rintro _ _ ⟨rfl, rfl⟩
    go_wp2
    go_ret
    exact ⟨rfl, rfl⟩
  · have hs : nsq n = isq n := by unfold nsq; rw [if_neg hq]
    rw [hs]; clear hs
    go_enter Tryd.func88, Tryd.ntmps88
    go_wp2_with fail
    refine (rroot_any n h0 h1 _).mono ?_
    rintro _ _ ⟨rfl, rfl⟩
    go_wp2
    go_ret
    exact ⟨rfl, rfl⟩

theorem dot_self (a b c : Int) (ha : -268435455 ≤ a) (ha' : a ≤ 268435455) (hb : -268435455 ≤ b) (hb' : b ≤ 268435455) (hc : -268435455 ≤ c) (hc' : c ≤ 268435455) : 0 ≤ dot a b c a b c ∧ dot a b c a b c ≤ 216172780503171075 := by
  have := mul_bd a a ha ha' ha ha'
  have := mul_bd b b hb hb' hb hb'
  have := mul_bd c c hc hc' hc hc'
  have := sqn a
  have := sqn b
  have := sqn c
  unfold dot
  omega
set_option maxHeartbeats 400000 in
theorem rlength_any (a b c d e f : Int) (ha0 : 0 ≤ a) (ha1 : a < 65536) (hb0 : 0 ≤ b) (hb1 : b < 65536) (hc0 : 0 ≤ c) (hc1 : c < 65536) (hd0 : 0 ≤ d) (hd1 : d < 65536) (he0 : 0 ≤ e) (he1 : e < 65536) (hf0 : 0 ≤ f) (hf1 : f < 65536) (w : World) :
    Calls Tryd.prog 75 #[(.agg #[.int .u16 (a), .int .u16 (b), .int .u16 (c), .int .u16 (d), .int .u16 (e), .int .u16 (f)])] w fun r w' =>
      r = .returned (.tuple #[(.agg #[.int .u16 (hi (sat (nsq (dot (val a b) (val c d) (val e f) (val a b) (val c d) (val e f))) 268435455)), .int .u16 (lo (sat (nsq (dot (val a b) (val c d) (val e f) (val a b) (val c d) (val e f))) 268435455))]), .bool (outb (nsq (dot (val a b) (val c d) (val e f) (val a b) (val c d) (val e f))) 268435455)]) ∧ Below w.heap.size w w' := by
  obtain ⟨d0, d1⟩ := dot_self (val a b) (val c d) (val e f) (val_lo _ _) (val_hi _ _) (val_lo _ _) (val_hi _ _) (val_lo _ _) (val_hi _ _)
  go_enter Tryd.func75, Tryd.ntmps75
  go_wp2_with fail
  refine (rexact_any a b c d e f a b c d e f ha0 ha1 hb0 hb1 hc0 hc1 hd0 hd1 he0 he1 hf0 hf1 ha0 ha1 hb0 hb1 hc0 hc1 hd0 hd1 he0 he1 hf0 hf1 _).mono ?_
  rintro _ r1 ⟨rfl, hbr1⟩
  obtain ⟨hcr1, hfr1⟩ := bcell hbr1
  have hzr1 := hbr1.size
  try simp only [World.size_alloc, World.size_setCell, World.size_drew] at hzr1
  have hlr1w0 : w.heap.size < r1.heap.size := by omega
  have hlr1w1 : w.heap.size + 1 < r1.heap.size := by omega
  go_wp2_with fail
  refine (rnear_any (dot (val a b) (val c d) (val e f) (val a b) (val c d) (val e f)) d0 (by omega) _).mono ?_
  rintro _ _ ⟨rfl, rfl⟩
  go_wp2_with fail
  refine (rclamp_any (nsq (dot (val a b) (val c d) (val e f) (val a b) (val c d) (val e f))) _).mono ?_
  rintro _ r3 ⟨rfl, hbr3⟩
  obtain ⟨hcr3, hfr3⟩ := bcell hbr3
  have hzr3 := hbr3.size
  try simp only [World.size_alloc, World.size_setCell, World.size_drew] at hzr3
  have hlr3w0 : w.heap.size < r3.heap.size := by omega
  have hlr3w1 : w.heap.size + 1 < r3.heap.size := by omega
  go_wp2
  refine bodyPost_ret (v := .tuple #[(.agg #[.int .u16 (hi (sat (nsq (dot (val a b) (val c d) (val e f) (val a b) (val c d) (val e f))) 268435455)), .int .u16 (lo (sat (nsq (dot (val a b) (val c d) (val e f) (val a b) (val c d) (val e f))) 268435455))]), .bool (outb (nsq (dot (val a b) (val c d) (val e f) (val a b) (val c d) (val e f))) 268435455)]) (by simp [results, Tryd.results75, go_sem, *]) rfl ⟨rfl, ?_⟩; exact (by repeat' (first | (with_reducible exact Below.refl _ _) | (with_reducible refine bl_set ?_ _ ?_) | (with_reducible refine bl_alloc ?_ _) | (with_reducible refine bl_drew ?_) | (with_reducible refine bl_via (by with_reducible assumption) ?_) | (with_reducible assumption) | omega | (simp only []; omega) | (simp; omega)))
end Go.Proofs.YtbbhppjamighdaaDoor
