/- Contracts of the reference of layer 17 (Values, Exact, Dot, Of, Cross, Length) and of layer 16 (Root, Nearest). -/
import Derived.Test.YtpmocegfiniafaaRa
import Derived.Test.YtpmocegfiniafaaKd
import Derived.Test.YtpmocegfiniafaaPc
namespace Go.Proofs.Ytpmocegfiniafaa
set_option linter.unusedSimpArgs false
set_option linter.unusedVariables false
open Go.RowKit

theorem rcell_far (w : World) (p a : Addr) (v : Value) (h : p.block ≠ a.block) : (w.setCell p v).cell? a = w.cell? a := World.cell?_setCell_other _ _ _ _ (fun e => h (congrArg Addr.block e))

set_option maxHeartbeats 400000 in
theorem rvalues_any (a b c d e f : Int) (ha0 : 0 ≤ a) (ha1 : a < 65536) (hb0 : 0 ≤ b) (hb1 : b < 65536) (hc0 : 0 ≤ c) (hc1 : c < 65536) (hd0 : 0 ≤ d) (hd1 : d < 65536) (he0 : 0 ≤ e) (he1 : e < 65536) (hf0 : 0 ≤ f) (hf1 : f < 65536) (w : World) :
    Calls Try.prog 58 #[(.agg #[.int .u16 (a), .int .u16 (b), .int .u16 (c), .int .u16 (d), .int .u16 (e), .int .u16 (f)])] w fun r w' => r = .returned (.agg #[.int .i64 (val a b), .int .i64 (val c d), .int .i64 (val e f)]) ∧ Below w.heap.size w w' := by
  go_enter Try.func58, Try.ntmps58
  go_wp2_with fail
  have hecr1 := @Ext.cell
  refine wp_region_ext_tail 10 (by kernel_rfl) (by kernel_rfl) ?_
  simp only [List.take_succ_cons, List.take_zero, List.drop_succ_cons, List.drop_zero]
  repeat (first | go_big_quiet_skip | (go_big_quiet_want; go_big_quiet_op; first | go_big_quiet_on | (go_big_quiet_call ((first | fail | (go_at_call 12; exact ext_call (rvalue_any _ _ (by assumption) (by assumption) (by assumption) (by assumption) _)))))))
  clear hecr1
  refine wpQuiet_nil ?_
  rintro r1 ⟨⟨_, hbr1⟩, rfl⟩
  obtain ⟨hcr1, hfr1⟩ := bcell hbr1
  have hzr1 := hbr1.size
  try simp only [World.size_alloc, World.size_setCell, World.size_drew] at hzr1
  have hlr1w0 : w.heap.size < r1.heap.size := by omega
  have hlr1w1 : w.heap.size + 1 < r1.heap.size := by omega
  go_wp2
  refine bodyPost_ret (v := (.agg #[.int .i64 (val a b), .int .i64 (val c d), .int .i64 (val e f)])) (by simp [results, Try.results58, go_sem, *]) rfl ⟨rfl, ?_⟩; exact (by repeat' (first | (with_reducible exact Below.refl _ _) | (with_reducible refine bl_set ?_ _ ?_) | (with_reducible refine bl_alloc ?_ _) | (with_reducible refine bl_drew ?_) | (with_reducible refine bl_via (by with_reducible assumption) ?_) | (with_reducible assumption) | omega | (simp only []; omega) | (simp; omega)))

set_option maxHeartbeats 1000000 in
theorem rof_any (x y z : Int) (w : World) :
    Calls Try.prog 59 #[.int .i64 x, .int .i64 y, .int .i64 z] w fun r w' => r = .returned (.tuple #[(.agg #[.int .u16 (hi (sat x 268435455)), .int .u16 (lo (sat x 268435455)), .int .u16 (hi (sat y 268435455)), .int .u16 (lo (sat y 268435455)), .int .u16 (hi (sat z 268435455)), .int .u16 (lo (sat z 268435455))]), .bool (outb x 268435455 || outb y 268435455 || outb z 268435455)]) ∧ Below w.heap.size w w' := by
  cases q0 : outb x 268435455 <;> cases q1 : outb y 268435455
  all_goals
    go_enter Try.func59, Try.ntmps59
    go_wp2_with fail
    refine (rclamp_any x _).mono ?_
    rintro _ r1 ⟨rfl, hbr1⟩
    obtain ⟨hcr1, hfr1⟩ := bcell hbr1
    have hzr1 := hbr1.size
    try simp only [World.size_alloc, World.size_setCell, World.size_drew] at hzr1
    have hlr1w0 : w.heap.size < r1.heap.size := by omega
    have gr1_0 : r1.cell? ⟨w.heap.size, 0, none⟩ = some (.int .u16 0) := (hcr1 _ _ (by (try simp only [World.size_alloc, World.size_setCell]); omega)).trans (by with_reducible first | assumption | exact (World.cell?_alloc_lt _ _ _ (by omega)).trans (by assumption) | exact World.cell?_setCell_same _ _ _ (by assumption) | exact (World.cell?_setCell_other _ _ _ _ (by simp)).trans (by assumption) | exact (rcell_far _ _ _ _ (by dsimp only; omega)).trans ((rcell_far _ _ _ _ (by dsimp only; omega)).trans (by assumption)) | simp (disch := omega) [go_sem, *, List.getElem?_cons_zero, List.getElem?_cons_succ])
    have gr1_1 : r1.cell? ⟨w.heap.size, 1, none⟩ = some (.int .u16 0) := (hcr1 _ _ (by (try simp only [World.size_alloc, World.size_setCell]); omega)).trans (by with_reducible first | assumption | exact (World.cell?_alloc_lt _ _ _ (by omega)).trans (by assumption) | exact World.cell?_setCell_same _ _ _ (by assumption) | exact (World.cell?_setCell_other _ _ _ _ (by simp)).trans (by assumption) | exact (rcell_far _ _ _ _ (by dsimp only; omega)).trans ((rcell_far _ _ _ _ (by dsimp only; omega)).trans (by assumption)) | simp (disch := omega) [go_sem, *, List.getElem?_cons_zero, List.getElem?_cons_succ])
    have gr1_2 : r1.cell? ⟨w.heap.size, 2, none⟩ = some (.int .u16 0) := (hcr1 _ _ (by (try simp only [World.size_alloc, World.size_setCell]); omega)).trans (by with_reducible first | assumption | exact (World.cell?_alloc_lt _ _ _ (by omega)).trans (by assumption) | exact World.cell?_setCell_same _ _ _ (by assumption) | exact (World.cell?_setCell_other _ _ _ _ (by simp)).trans (by assumption) | exact (rcell_far _ _ _ _ (by dsimp only; omega)).trans ((rcell_far _ _ _ _ (by dsimp only; omega)).trans (by assumption)) | simp (disch := omega) [go_sem, *, List.getElem?_cons_zero, List.getElem?_cons_succ])
    have gr1_3 : r1.cell? ⟨w.heap.size, 3, none⟩ = some (.int .u16 0) := (hcr1 _ _ (by (try simp only [World.size_alloc, World.size_setCell]); omega)).trans (by with_reducible first | assumption | exact (World.cell?_alloc_lt _ _ _ (by omega)).trans (by assumption) | exact World.cell?_setCell_same _ _ _ (by assumption) | exact (World.cell?_setCell_other _ _ _ _ (by simp)).trans (by assumption) | exact (rcell_far _ _ _ _ (by dsimp only; omega)).trans ((rcell_far _ _ _ _ (by dsimp only; omega)).trans (by assumption)) | simp (disch := omega) [go_sem, *, List.getElem?_cons_zero, List.getElem?_cons_succ])
    have gr1_4 : r1.cell? ⟨w.heap.size, 4, none⟩ = some (.int .u16 0) := (hcr1 _ _ (by (try simp only [World.size_alloc, World.size_setCell]); omega)).trans (by with_reducible first | assumption | exact (World.cell?_alloc_lt _ _ _ (by omega)).trans (by assumption) | exact World.cell?_setCell_same _ _ _ (by assumption) | exact (World.cell?_setCell_other _ _ _ _ (by simp)).trans (by assumption) | exact (rcell_far _ _ _ _ (by dsimp only; omega)).trans ((rcell_far _ _ _ _ (by dsimp only; omega)).trans (by assumption)) | simp (disch := omega) [go_sem, *, List.getElem?_cons_zero, List.getElem?_cons_succ])
    have gr1_5 : r1.cell? ⟨w.heap.size, 5, none⟩ = some (.int .u16 0) := (hcr1 _ _ (by (try simp only [World.size_alloc, World.size_setCell]); omega)).trans (by with_reducible first | assumption | exact (World.cell?_alloc_lt _ _ _ (by omega)).trans (by assumption) | exact World.cell?_setCell_same _ _ _ (by assumption) | exact (World.cell?_setCell_other _ _ _ _ (by simp)).trans (by assumption) | exact (rcell_far _ _ _ _ (by dsimp only; omega)).trans ((rcell_far _ _ _ _ (by dsimp only; omega)).trans (by assumption)) | simp (disch := omega) [go_sem, *, List.getElem?_cons_zero, List.getElem?_cons_succ])
    go_wp2_with fail
    refine (rclamp_any y _).mono ?_
    rintro _ r2 ⟨rfl, hbr2⟩
    obtain ⟨hcr2, hfr2⟩ := bcell hbr2
    have hzr2 := hbr2.size
    try simp only [World.size_alloc, World.size_setCell, World.size_drew] at hzr2
    have hlr2w0 : w.heap.size < r2.heap.size := by omega
    have hlr2r10 : r1.heap.size < r2.heap.size := by omega
    have gr2_0 : r2.cell? ⟨w.heap.size, 0, none⟩ = some (.int .u16 0) := (hcr2 _ _ (by (try simp only [World.size_alloc, World.size_setCell]); omega)).trans (by with_reducible first | assumption | exact (World.cell?_alloc_lt _ _ _ (by omega)).trans (by assumption) | exact World.cell?_setCell_same _ _ _ (by assumption) | exact (World.cell?_setCell_other _ _ _ _ (by simp)).trans (by assumption) | exact (rcell_far _ _ _ _ (by dsimp only; omega)).trans ((rcell_far _ _ _ _ (by dsimp only; omega)).trans (by assumption)) | simp (disch := omega) [go_sem, *, List.getElem?_cons_zero, List.getElem?_cons_succ])
    have gr2_1 : r2.cell? ⟨w.heap.size, 1, none⟩ = some (.int .u16 0) := (hcr2 _ _ (by (try simp only [World.size_alloc, World.size_setCell]); omega)).trans (by with_reducible first | assumption | exact (World.cell?_alloc_lt _ _ _ (by omega)).trans (by assumption) | exact World.cell?_setCell_same _ _ _ (by assumption) | exact (World.cell?_setCell_other _ _ _ _ (by simp)).trans (by assumption) | exact (rcell_far _ _ _ _ (by dsimp only; omega)).trans ((rcell_far _ _ _ _ (by dsimp only; omega)).trans (by assumption)) | simp (disch := omega) [go_sem, *, List.getElem?_cons_zero, List.getElem?_cons_succ])
    have gr2_2 : r2.cell? ⟨w.heap.size, 2, none⟩ = some (.int .u16 0) := (hcr2 _ _ (by (try simp only [World.size_alloc, World.size_setCell]); omega)).trans (by with_reducible first | assumption | exact (World.cell?_alloc_lt _ _ _ (by omega)).trans (by assumption) | exact World.cell?_setCell_same _ _ _ (by assumption) | exact (World.cell?_setCell_other _ _ _ _ (by simp)).trans (by assumption) | exact (rcell_far _ _ _ _ (by dsimp only; omega)).trans ((rcell_far _ _ _ _ (by dsimp only; omega)).trans (by assumption)) | simp (disch := omega) [go_sem, *, List.getElem?_cons_zero, List.getElem?_cons_succ])
    have gr2_3 : r2.cell? ⟨w.heap.size, 3, none⟩ = some (.int .u16 0) := (hcr2 _ _ (by (try simp only [World.size_alloc, World.size_setCell]); omega)).trans (by with_reducible first | assumption | exact (World.cell?_alloc_lt _ _ _ (by omega)).trans (by assumption) | exact World.cell?_setCell_same _ _ _ (by assumption) | exact (World.cell?_setCell_other _ _ _ _ (by simp)).trans (by assumption) | exact (rcell_far _ _ _ _ (by dsimp only; omega)).trans ((rcell_far _ _ _ _ (by dsimp only; omega)).trans (by assumption)) | simp (disch := omega) [go_sem, *, List.getElem?_cons_zero, List.getElem?_cons_succ])
    have gr2_4 : r2.cell? ⟨w.heap.size, 4, none⟩ = some (.int .u16 0) := (hcr2 _ _ (by (try simp only [World.size_alloc, World.size_setCell]); omega)).trans (by with_reducible first | assumption | exact (World.cell?_alloc_lt _ _ _ (by omega)).trans (by assumption) | exact World.cell?_setCell_same _ _ _ (by assumption) | exact (World.cell?_setCell_other _ _ _ _ (by simp)).trans (by assumption) | exact (rcell_far _ _ _ _ (by dsimp only; omega)).trans ((rcell_far _ _ _ _ (by dsimp only; omega)).trans (by assumption)) | simp (disch := omega) [go_sem, *, List.getElem?_cons_zero, List.getElem?_cons_succ])
    have gr2_5 : r2.cell? ⟨w.heap.size, 5, none⟩ = some (.int .u16 0) := (hcr2 _ _ (by (try simp only [World.size_alloc, World.size_setCell]); omega)).trans (by with_reducible first | assumption | exact (World.cell?_alloc_lt _ _ _ (by omega)).trans (by assumption) | exact World.cell?_setCell_same _ _ _ (by assumption) | exact (World.cell?_setCell_other _ _ _ _ (by simp)).trans (by assumption) | exact (rcell_far _ _ _ _ (by dsimp only; omega)).trans ((rcell_far _ _ _ _ (by dsimp only; omega)).trans (by assumption)) | simp (disch := omega) [go_sem, *, List.getElem?_cons_zero, List.getElem?_cons_succ])
    go_wp2_with fail
    refine (rclamp_any z _).mono ?_
    rintro _ r3 ⟨rfl, hbr3⟩
    obtain ⟨hcr3, hfr3⟩ := bcell hbr3
    have hzr3 := hbr3.size
    try simp only [World.size_alloc, World.size_setCell, World.size_drew] at hzr3
    have hlr3w0 : w.heap.size < r3.heap.size := by omega
    have hlr3r10 : r1.heap.size < r3.heap.size := by omega
    have hlr3r20 : r2.heap.size < r3.heap.size := by omega
    have gr3_0 : r3.cell? ⟨w.heap.size, 0, none⟩ = some (.int .u16 0) := (hcr3 _ _ (by (try simp only [World.size_alloc, World.size_setCell]); omega)).trans (by with_reducible first | assumption | exact (World.cell?_alloc_lt _ _ _ (by omega)).trans (by assumption) | exact World.cell?_setCell_same _ _ _ (by assumption) | exact (World.cell?_setCell_other _ _ _ _ (by simp)).trans (by assumption) | exact (rcell_far _ _ _ _ (by dsimp only; omega)).trans ((rcell_far _ _ _ _ (by dsimp only; omega)).trans (by assumption)) | simp (disch := omega) [go_sem, *, List.getElem?_cons_zero, List.getElem?_cons_succ])
    have gr3_1 : r3.cell? ⟨w.heap.size, 1, none⟩ = some (.int .u16 0) := (hcr3 _ _ (by (try simp only [World.size_alloc, World.size_setCell]); omega)).trans (by with_reducible first | assumption | exact (World.cell?_alloc_lt _ _ _ (by omega)).trans (by assumption) | exact World.cell?_setCell_same _ _ _ (by assumption) | exact (World.cell?_setCell_other _ _ _ _ (by simp)).trans (by assumption) | exact (rcell_far _ _ _ _ (by dsimp only; omega)).trans ((rcell_far _ _ _ _ (by dsimp only; omega)).trans (by assumption)) | simp (disch := omega) [go_sem, *, List.getElem?_cons_zero, List.getElem?_cons_succ])
    have gr3_2 : r3.cell? ⟨w.heap.size, 2, none⟩ = some (.int .u16 0) := (hcr3 _ _ (by (try simp only [World.size_alloc, World.size_setCell]); omega)).trans (by with_reducible first | assumption | exact (World.cell?_alloc_lt _ _ _ (by omega)).trans (by assumption) | exact World.cell?_setCell_same _ _ _ (by assumption) | exact (World.cell?_setCell_other _ _ _ _ (by simp)).trans (by assumption) | exact (rcell_far _ _ _ _ (by dsimp only; omega)).trans ((rcell_far _ _ _ _ (by dsimp only; omega)).trans (by assumption)) | simp (disch := omega) [go_sem, *, List.getElem?_cons_zero, List.getElem?_cons_succ])
    have gr3_3 : r3.cell? ⟨w.heap.size, 3, none⟩ = some (.int .u16 0) := (hcr3 _ _ (by (try simp only [World.size_alloc, World.size_setCell]); omega)).trans (by with_reducible first | assumption | exact (World.cell?_alloc_lt _ _ _ (by omega)).trans (by assumption) | exact World.cell?_setCell_same _ _ _ (by assumption) | exact (World.cell?_setCell_other _ _ _ _ (by simp)).trans (by assumption) | exact (rcell_far _ _ _ _ (by dsimp only; omega)).trans ((rcell_far _ _ _ _ (by dsimp only; omega)).trans (by assumption)) | simp (disch := omega) [go_sem, *, List.getElem?_cons_zero, List.getElem?_cons_succ])
    have gr3_4 : r3.cell? ⟨w.heap.size, 4, none⟩ = some (.int .u16 0) := (hcr3 _ _ (by (try simp only [World.size_alloc, World.size_setCell]); omega)).trans (by with_reducible first | assumption | exact (World.cell?_alloc_lt _ _ _ (by omega)).trans (by assumption) | exact World.cell?_setCell_same _ _ _ (by assumption) | exact (World.cell?_setCell_other _ _ _ _ (by simp)).trans (by assumption) | exact (rcell_far _ _ _ _ (by dsimp only; omega)).trans ((rcell_far _ _ _ _ (by dsimp only; omega)).trans (by assumption)) | simp (disch := omega) [go_sem, *, List.getElem?_cons_zero, List.getElem?_cons_succ])
    have gr3_5 : r3.cell? ⟨w.heap.size, 5, none⟩ = some (.int .u16 0) := (hcr3 _ _ (by (try simp only [World.size_alloc, World.size_setCell]); omega)).trans (by with_reducible first | assumption | exact (World.cell?_alloc_lt _ _ _ (by omega)).trans (by assumption) | exact World.cell?_setCell_same _ _ _ (by assumption) | exact (World.cell?_setCell_other _ _ _ _ (by simp)).trans (by assumption) | exact (rcell_far _ _ _ _ (by dsimp only; omega)).trans ((rcell_far _ _ _ _ (by dsimp only; omega)).trans (by assumption)) | simp (disch := omega) [go_sem, *, List.getElem?_cons_zero, List.getElem?_cons_succ])
    go_wp2
    refine bodyPost_ret (v := (.tuple #[(.agg #[.int .u16 (hi (sat x 268435455)), .int .u16 (lo (sat x 268435455)), .int .u16 (hi (sat y 268435455)), .int .u16 (lo (sat y 268435455)), .int .u16 (hi (sat z 268435455)), .int .u16 (lo (sat z 268435455))]), .bool (outb x 268435455 || outb y 268435455 || outb z 268435455)])) (by simp [results, Try.results59, go_sem, *]) rfl ⟨by rw [q0, q1], ?_⟩; exact (by repeat' (first | (with_reducible exact Below.refl _ _) | (with_reducible refine bl_set ?_ _ ?_) | (with_reducible refine bl_alloc ?_ _) | (with_reducible refine bl_drew ?_) | (with_reducible refine bl_via (by with_reducible assumption) ?_) | (with_reducible assumption) | omega | (simp only []; omega) | (simp; omega)))

end Go.Proofs.Ytpmocegfiniafaa
