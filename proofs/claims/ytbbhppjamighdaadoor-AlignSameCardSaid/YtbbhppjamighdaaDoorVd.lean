/- Contract of vector.Cross over this translation. -/
import Derived.Test.YtbbhppjamighdaaDoorVa
namespace Go.Proofs.YtbbhppjamighdaaDoor
set_option linter.unusedSimpArgs false
set_option linter.unusedVariables false
open Go.RowKit

set_option maxRecDepth 100000 in
set_option maxHeartbeats 4000000 in
theorem cross_any (a b c d e f a' b' c' d' e' f' : Int) (ha0 : 0 ≤ a) (ha1 : a < 65536) (hb0 : 0 ≤ b) (hb1 : b < 65536) (hc0 : 0 ≤ c) (hc1 : c < 65536) (hd0 : 0 ≤ d) (hd1 : d < 65536) (he0 : 0 ≤ e) (he1 : e < 65536) (hf0 : 0 ≤ f) (hf1 : f < 65536) (ha'0 : 0 ≤ a') (ha'1 : a' < 65536) (hb'0 : 0 ≤ b') (hb'1 : b' < 65536) (hc'0 : 0 ≤ c') (hc'1 : c' < 65536) (hd'0 : 0 ≤ d') (hd'1 : d' < 65536) (he'0 : 0 ≤ e') (he'1 : e' < 65536) (hf'0 : 0 ≤ f') (hf'1 : f' < 65536) (w : World) :
    Calls Tryd.prog 41 #[(.agg #[.int .u16 (a), .int .u16 (b), .int .u16 (c), .int .u16 (d), .int .u16 (e), .int .u16 (f)]), (.agg #[.int .u16 (a'), .int .u16 (b'), .int .u16 (c'), .int .u16 (d'), .int .u16 (e'), .int .u16 (f')])] w fun r w' => r = .returned (.tuple #[(.agg #[.int .u16 (hi (sat (rnd (val c d * val e' f' - val e f * val c' d') 268435456) 268435455)), .int .u16 (lo (sat (rnd (val c d * val e' f' - val e f * val c' d') 268435456) 268435455)), .int .u16 (hi (sat (rnd (val e f * val a' b' - val a b * val e' f') 268435456) 268435455)), .int .u16 (lo (sat (rnd (val e f * val a' b' - val a b * val e' f') 268435456) 268435455)), .int .u16 (hi (sat (rnd (val a b * val c' d' - val c d * val a' b') 268435456) 268435455)), .int .u16 (lo (sat (rnd (val a b * val c' d' - val c d * val a' b') 268435456) 268435455))]), .bool ((outb (rnd (val c d * val e' f' - val e f * val c' d') 268435456) 268435455) || (outb (rnd (val e f * val a' b' - val a b * val e' f') 268435456) 268435455) || (outb (rnd (val a b * val c' d' - val c d * val a' b') 268435456) 268435455))]) ∧ Below w.heap.size w w' := by
  have := mul_bd (val c d) (val e' f') (val_lo _ _) (val_hi _ _) (val_lo _ _) (val_hi _ _)
  obtain ⟨_, _⟩ := this
  have := mul_bd (val e f) (val c' d') (val_lo _ _) (val_hi _ _) (val_lo _ _) (val_hi _ _)
  obtain ⟨_, _⟩ := this
  have := mul_bd (val e f) (val a' b') (val_lo _ _) (val_hi _ _) (val_lo _ _) (val_hi _ _)
  obtain ⟨_, _⟩ := this
  have := mul_bd (val a b) (val e' f') (val_lo _ _) (val_hi _ _) (val_lo _ _) (val_hi _ _)
  obtain ⟨_, _⟩ := this
  have := mul_bd (val a b) (val c' d') (val_lo _ _) (val_hi _ _) (val_lo _ _) (val_hi _ _)
  obtain ⟨_, _⟩ := this
  have := mul_bd (val c d) (val a' b') (val_lo _ _) (val_hi _ _) (val_lo _ _) (val_hi _ _)
  obtain ⟨_, _⟩ := this
  cases q0 : (outb (rnd (val c d * val e' f' - val e f * val c' d') 268435456) 268435455) <;> cases q1 : (outb (rnd (val e f * val a' b' - val a b * val e' f') 268435456) 268435455)
  all_goals
    go_enter Tryd.func41, Tryd.ntmps41
    go_wp2_with fail
    have hecr1 := @Ext.cell2
    refine wp_region_float2 4 _ _ _ _ _ (.cells #[.int .i64 0, .int .i64 0, .int .i64 0] 53) (.cells #[.int .i64 0, .int .i64 0, .int .i64 0] 53) (by kernel_rfl) (by kernel_rfl) rfl rfl rfl rfl rfl rfl rfl rfl (fun _ _ => by simp [go_sem]) (fun _ _ => by simp [go_sem]) (by kernel_rfl) (by kernel_rfl) (by kernel_rfl) rfl ?_
    apply Exists.intro
    refine ⟨fun W' => ?_, ?_⟩
    · simp only [List.take_succ_cons, List.take_zero]
      repeat (first | go_big_quiet_skip | (go_big_quiet_want; go_big_quiet_op; first | go_big_quiet_on | (go_big_quiet_call ((first | fail | (go_at_call 68; exact ext_call (values_any _ _ _ _ _ _ (by assumption) (by assumption) (by assumption) (by assumption) (by assumption) (by assumption) (by assumption) (by assumption) (by assumption) (by assumption) (by assumption) (by assumption) _)))))))
      exact wpQuiet_nil rfl
    clear hecr1
    simp only [List.drop_succ_cons, List.drop_zero, Act.put, List.setIfInBounds_toArray, List.set_cons_zero, List.set_cons_succ]
    rintro B1 C1 r1 hbr1 ⟨hBr1, hDr1, hEr1⟩ ⟨hBcr1, hDcr1, hEcr1⟩ hner1
    have hnfr1 := Ne.symm hner1
    have hGr1_0 := block_cell hEr1 0
    have hGr1_1 := block_cell hEr1 1
    have hGr1_2 := block_cell hEr1 2
    have hFr1 := block_free hEr1
    have hGcr1_0 := block_cell hEcr1 0
    have hGcr1_1 := block_cell hEcr1 1
    have hGcr1_2 := block_cell hEcr1 2
    have hFcr1 := block_free hEcr1
    simp only [List.getElem?_toArray, List.getElem?_cons_zero, List.getElem?_cons_succ] at hGr1_0 hGr1_1 hGr1_2 hGcr1_0 hGcr1_1 hGcr1_2
    clear hEr1 hEcr1
    try simp only [World.size_alloc, World.size_setCell, World.size_drew] at hBr1
    try simp only [World.size_alloc, World.size_setCell, World.size_drew] at hBcr1
    obtain ⟨hcr1, hfr1⟩ := bcell hbr1
    have hzr1 := hbr1.size
    try simp only [World.size_alloc, World.size_setCell, World.size_drew] at hzr1
    have hlr1w0 : w.heap.size < r1.heap.size := by omega
    have hlr1w1 : w.heap.size + 1 < r1.heap.size := by omega
    have hlr1w2 : w.heap.size + 1 + 1 < r1.heap.size := by omega
    go_wp2_with fail
    refine wp_loop_rounds 4 ?_
    rw [rounds_succ]
    go_wp2_with fail
    have hecr4 := @Ext.cell2
    refine wp_region_floatl 19 18 _ _ _ _ _ (.cells #[.int .u16 0, .int .u16 0] 25) (by kernel_rfl) rfl rfl (by kernel_rfl) (by kernel_rfl) rfl rfl rfl rfl (fun _ _ => by simp [go_sem]) (fun _ _ d _ _ h => by cases d <;> exact h) (by kernel_rfl) (by kernel_rfl) rfl ?_
    apply Exists.intro
    refine ⟨fun W' => ?_, ?_⟩
    · simp only [List.take_succ_cons, List.take_zero]
      repeat (first | go_big_quiet_skip | (go_big_quiet_want; go_big_quiet_op; first | go_big_quiet_on | (go_big_quiet_call ((first | fail | (go_at_call 72; exact ext_call (rounded_any _ (by omega) (by omega) _)))))))
      exact wpQuiet_nil rfl
    clear hecr4
    simp only [List.drop_succ_cons, List.drop_zero, Act.put, List.setIfInBounds_toArray, List.set_cons_zero, List.set_cons_succ]
    intro B4 r4 hbr4 hBr4 hDr4 hEr4
    have hGr4_0 := block_cell hEr4 0
    have hGr4_1 := block_cell hEr4 1
    have hFr4 := block_free hEr4
    simp only [List.getElem?_toArray, List.getElem?_cons_zero, List.getElem?_cons_succ] at hGr4_0 hGr4_1
    clear hEr4
    try simp only [World.size_alloc, World.size_setCell, World.size_drew] at hBr4
    obtain ⟨hcr4, hfr4⟩ := bcell hbr4
    have hzr4 := hbr4.size
    try simp only [World.size_alloc, World.size_setCell, World.size_drew] at hzr4
    have hlr4w0 : w.heap.size < r4.heap.size := by omega
    have hlr4w1 : w.heap.size + 1 < r4.heap.size := by omega
    have hlr4w2 : w.heap.size + 1 + 1 < r4.heap.size := by omega
    have hlr4B1 : B1 < r4.heap.size := by omega
    have hlr4C1 : C1 < r4.heap.size := by omega
    have hlr4r10 : r1.heap.size < r4.heap.size := by omega
    go_wp2_with fail
    rw [rounds_succ]
    go_wp2_with fail
    have hecr5 := @Ext.cell2
    refine wp_region_floatl 19 18 _ _ _ _ _ (.cells #[.int .u16 0, .int .u16 0] 25) (by kernel_rfl) rfl rfl (by kernel_rfl) (by kernel_rfl) rfl rfl rfl rfl (fun _ _ => by simp [go_sem]) (fun _ _ d _ _ h => by cases d <;> exact h) (by kernel_rfl) (by kernel_rfl) rfl ?_
    apply Exists.intro
    refine ⟨fun W' => ?_, ?_⟩
    · simp only [List.take_succ_cons, List.take_zero]
      repeat (first | go_big_quiet_skip | (go_big_quiet_want; go_big_quiet_op; first | go_big_quiet_on | (go_big_quiet_call ((first | fail | (go_at_call 72; exact ext_call (rounded_any _ (by omega) (by omega) _)))))))
      exact wpQuiet_nil rfl
    clear hecr5
    simp only [List.drop_succ_cons, List.drop_zero, Act.put, List.setIfInBounds_toArray, List.set_cons_zero, List.set_cons_succ]
    intro B5 r5 hbr5 hBr5 hDr5 hEr5
    have hGr5_0 := block_cell hEr5 0
    have hGr5_1 := block_cell hEr5 1
    have hFr5 := block_free hEr5
    simp only [List.getElem?_toArray, List.getElem?_cons_zero, List.getElem?_cons_succ] at hGr5_0 hGr5_1
    clear hEr5
    try simp only [World.size_alloc, World.size_setCell, World.size_drew] at hBr5
    obtain ⟨hcr5, hfr5⟩ := bcell hbr5
    have hzr5 := hbr5.size
    try simp only [World.size_alloc, World.size_setCell, World.size_drew] at hzr5
    have hlr5w0 : w.heap.size < r5.heap.size := by omega
    have hlr5w1 : w.heap.size + 1 < r5.heap.size := by omega
    have hlr5w2 : w.heap.size + 1 + 1 < r5.heap.size := by omega
    have hlr5B1 : B1 < r5.heap.size := by omega
    have hlr5C1 : C1 < r5.heap.size := by omega
    have hlr5r10 : r1.heap.size < r5.heap.size := by omega
    have hlr5B4 : B4 < r5.heap.size := by omega
    go_wp2_with fail
    rw [rounds_succ]
    go_wp2_with fail
    have hecr6 := @Ext.cell2
    refine wp_region_floatl 19 18 _ _ _ _ _ (.cells #[.int .u16 0, .int .u16 0] 25) (by kernel_rfl) rfl rfl (by kernel_rfl) (by kernel_rfl) rfl rfl rfl rfl (fun _ _ => by simp [go_sem]) (fun _ _ d _ _ h => by cases d <;> exact h) (by kernel_rfl) (by kernel_rfl) rfl ?_
    apply Exists.intro
    refine ⟨fun W' => ?_, ?_⟩
    · simp only [List.take_succ_cons, List.take_zero]
      repeat (first | go_big_quiet_skip | (go_big_quiet_want; go_big_quiet_op; first | go_big_quiet_on | (go_big_quiet_call ((first | fail | (go_at_call 72; exact ext_call (rounded_any _ (by omega) (by omega) _)))))))
      exact wpQuiet_nil rfl
    clear hecr6
    simp only [List.drop_succ_cons, List.drop_zero, Act.put, List.setIfInBounds_toArray, List.set_cons_zero, List.set_cons_succ]
    intro B6 r6 hbr6 hBr6 hDr6 hEr6
    have hGr6_0 := block_cell hEr6 0
    have hGr6_1 := block_cell hEr6 1
    have hFr6 := block_free hEr6
    simp only [List.getElem?_toArray, List.getElem?_cons_zero, List.getElem?_cons_succ] at hGr6_0 hGr6_1
    clear hEr6
    try simp only [World.size_alloc, World.size_setCell, World.size_drew] at hBr6
    obtain ⟨hcr6, hfr6⟩ := bcell hbr6
    have hzr6 := hbr6.size
    try simp only [World.size_alloc, World.size_setCell, World.size_drew] at hzr6
    have hlr6w0 : w.heap.size < r6.heap.size := by omega
    have hlr6w1 : w.heap.size + 1 < r6.heap.size := by omega
    have hlr6w2 : w.heap.size + 1 + 1 < r6.heap.size := by omega
    have hlr6B1 : B1 < r6.heap.size := by omega
    have hlr6C1 : C1 < r6.heap.size := by omega
    have hlr6r10 : r1.heap.size < r6.heap.size := by omega
    have hlr6B4 : B4 < r6.heap.size := by omega
    have hlr6B5 : B5 < r6.heap.size := by omega
    go_wp2_with fail
    rw [rounds_succ]
    go_wp2
    refine bodyPost_ret (v := (.tuple #[(.agg #[.int .u16 (hi (sat (rnd (val c d * val e' f' - val e f * val c' d') 268435456) 268435455)), .int .u16 (lo (sat (rnd (val c d * val e' f' - val e f * val c' d') 268435456) 268435455)), .int .u16 (hi (sat (rnd (val e f * val a' b' - val a b * val e' f') 268435456) 268435455)), .int .u16 (lo (sat (rnd (val e f * val a' b' - val a b * val e' f') 268435456) 268435455)), .int .u16 (hi (sat (rnd (val a b * val c' d' - val c d * val a' b') 268435456) 268435455)), .int .u16 (lo (sat (rnd (val a b * val c' d' - val c d * val a' b') 268435456) 268435455))]), .bool ((outb (rnd (val c d * val e' f' - val e f * val c' d') 268435456) 268435455) || (outb (rnd (val e f * val a' b' - val a b * val e' f') 268435456) 268435455) || (outb (rnd (val a b * val c' d' - val c d * val a' b') 268435456) 268435455))])) (by simp [results, Tryd.results41, go_sem, *]) rfl ⟨by rw [q0, q1], ?_⟩; exact (by repeat' (first | (with_reducible exact Below.refl _ _) | (with_reducible refine bl_set ?_ _ ?_) | (with_reducible refine bl_alloc ?_ _) | (with_reducible refine bl_drew ?_) | (with_reducible refine bl_via (by with_reducible assumption) ?_) | (with_reducible assumption) | omega | (simp only []; omega) | (simp; omega)))
end Go.Proofs.YtbbhppjamighdaaDoor
