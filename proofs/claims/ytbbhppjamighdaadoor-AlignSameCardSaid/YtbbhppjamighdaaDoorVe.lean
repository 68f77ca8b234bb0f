/- Contract of vector.Times over this translation. -/
import Derived.Test.YtbbhppjamighdaaDoorVa
namespace Go.Proofs.YtbbhppjamighdaaDoor
set_option linter.unusedSimpArgs false
set_option linter.unusedVariables false
open Go.RowKit

theorem dot_w (a b c d e f a' b' c' d' e' f' : Int) (Wa : W16 a) (Wb : W16 b) (Wc : W16 c) (Wd : W16 d) (We : W16 e) (Wf : W16 f) (Wa' : W16 a') (Wb' : W16 b') (Wc' : W16 c') (Wd' : W16 d') (We' : W16 e') (Wf' : W16 f') (w : World) :
    Calls Tryd.prog 82 #[(.agg #[.int .u16 (a), .int .u16 (b), .int .u16 (c), .int .u16 (d), .int .u16 (e), .int .u16 (f)]), (.agg #[.int .u16 (a'), .int .u16 (b'), .int .u16 (c'), .int .u16 (d'), .int .u16 (e'), .int .u16 (f')])] w fun r w' =>
      r = .returned (.tuple #[(.agg #[.int .u16 (hi (sat (rnd (dot (val a b) (val c d) (val e f) (val a' b') (val c' d') (val e' f')) 268435456) 268435455)), .int .u16 (lo (sat (rnd (dot (val a b) (val c d) (val e f) (val a' b') (val c' d') (val e' f')) 268435456) 268435455))]), .bool (outb (rnd (dot (val a b) (val c d) (val e f) (val a' b') (val c' d') (val e' f')) 268435456) 268435455)]) ∧ Below w.heap.size w w' :=
  dot_any a b c d e f a' b' c' d' e' f' Wa.1 Wa.2 Wb.1 Wb.2 Wc.1 Wc.2 Wd.1 Wd.2 We.1 We.2 Wf.1 Wf.2 Wa'.1 Wa'.2 Wb'.1 Wb'.2 Wc'.1 Wc'.2 Wd'.1 Wd'.2 We'.1 We'.2 Wf'.1 Wf'.2 w

set_option maxRecDepth 100000 in
set_option maxHeartbeats 4000000 in
theorem times_any (m00 m01 m02 m03 m04 m05 m10 m11 m12 m13 m14 m15 m20 m21 m22 m23 m24 m25 a0 a1 a2 a3 a4 a5 : Int) (Wm00 : W16 m00) (Wm01 : W16 m01) (Wm02 : W16 m02) (Wm03 : W16 m03) (Wm04 : W16 m04) (Wm05 : W16 m05) (Wm10 : W16 m10) (Wm11 : W16 m11) (Wm12 : W16 m12) (Wm13 : W16 m13) (Wm14 : W16 m14) (Wm15 : W16 m15) (Wm20 : W16 m20) (Wm21 : W16 m21) (Wm22 : W16 m22) (Wm23 : W16 m23) (Wm24 : W16 m24) (Wm25 : W16 m25) (Wa0 : W16 a0) (Wa1 : W16 a1) (Wa2 : W16 a2) (Wa3 : W16 a3) (Wa4 : W16 a4) (Wa5 : W16 a5) (w : World) :
    Calls Tryd.prog 58 #[(.agg #[.int .u16 (m00), .int .u16 (m01), .int .u16 (m02), .int .u16 (m03), .int .u16 (m04), .int .u16 (m05), .int .u16 (m10), .int .u16 (m11), .int .u16 (m12), .int .u16 (m13), .int .u16 (m14), .int .u16 (m15), .int .u16 (m20), .int .u16 (m21), .int .u16 (m22), .int .u16 (m23), .int .u16 (m24), .int .u16 (m25)]), (.agg #[.int .u16 (a0), .int .u16 (a1), .int .u16 (a2), .int .u16 (a3), .int .u16 (a4), .int .u16 (a5)])] w fun r w' => r = .returned (.tuple #[(.agg #[.int .u16 (hi (sat (rnd (dot (val m00 m01) (val m02 m03) (val m04 m05) (val a0 a1) (val a2 a3) (val a4 a5)) 268435456) 268435455)), .int .u16 (lo (sat (rnd (dot (val m00 m01) (val m02 m03) (val m04 m05) (val a0 a1) (val a2 a3) (val a4 a5)) 268435456) 268435455)), .int .u16 (hi (sat (rnd (dot (val m10 m11) (val m12 m13) (val m14 m15) (val a0 a1) (val a2 a3) (val a4 a5)) 268435456) 268435455)), .int .u16 (lo (sat (rnd (dot (val m10 m11) (val m12 m13) (val m14 m15) (val a0 a1) (val a2 a3) (val a4 a5)) 268435456) 268435455)), .int .u16 (hi (sat (rnd (dot (val m20 m21) (val m22 m23) (val m24 m25) (val a0 a1) (val a2 a3) (val a4 a5)) 268435456) 268435455)), .int .u16 (lo (sat (rnd (dot (val m20 m21) (val m22 m23) (val m24 m25) (val a0 a1) (val a2 a3) (val a4 a5)) 268435456) 268435455))]), .bool ((outb (rnd (dot (val m00 m01) (val m02 m03) (val m04 m05) (val a0 a1) (val a2 a3) (val a4 a5)) 268435456) 268435455) || (outb (rnd (dot (val m10 m11) (val m12 m13) (val m14 m15) (val a0 a1) (val a2 a3) (val a4 a5)) 268435456) 268435455) || (outb (rnd (dot (val m20 m21) (val m22 m23) (val m24 m25) (val a0 a1) (val a2 a3) (val a4 a5)) 268435456) 268435455))]) ∧ Below w.heap.size w w' := by
  cases q0 : (outb (rnd (dot (val m00 m01) (val m02 m03) (val m04 m05) (val a0 a1) (val a2 a3) (val a4 a5)) 268435456) 268435455) <;> cases q1 : (outb (rnd (dot (val m10 m11) (val m12 m13) (val m14 m15) (val a0 a1) (val a2 a3) (val a4 a5)) 268435456) 268435455)
  all_goals
    go_enter Tryd.func58, Tryd.ntmps58
    go_wp2_with fail
    refine wp_loop_rounds 4 ?_
    rw [rounds_succ]
    go_wp2_with fail
    have hecr4 := @Ext.cell2
    refine wp_region_floatl 8 7 _ _ _ _ _ (.cells #[.int .u16 0, .int .u16 0] 25) (by kernel_rfl) rfl rfl (by kernel_rfl) (by kernel_rfl) rfl rfl rfl rfl (fun _ _ => by simp [go_sem]) (fun _ _ d _ _ h => by cases d <;> exact h) (by kernel_rfl) (by kernel_rfl) rfl ?_
    apply Exists.intro
    refine ⟨fun W' => ?_, ?_⟩
    · simp only [List.take_succ_cons, List.take_zero]
      repeat (first | go_big_quiet_skip | (go_big_quiet_want; go_big_quiet_op; first | go_big_quiet_on | (go_big_quiet_call ((first | fail | (go_at_call 82; exact ext_call (dot_w _ _ _ _ _ _ _ _ _ _ _ _ (by assumption) (by assumption) (by assumption) (by assumption) (by assumption) (by assumption) (by assumption) (by assumption) (by assumption) (by assumption) (by assumption) (by assumption) _)))))))
      exact wpQuiet_nil rfl
    clear hecr4
    simp only [List.drop_succ_cons, List.drop_zero, Act.put, List.setIfInBounds_toArray, List.set_cons_zero, List.set_cons_succ]
    intro B4 r4 hbr4 hBr4 hDr4 hEr4
    have hGr4_0 := block_cell hEr4 0
    have hGr4_1 := block_cell hEr4 1
    have hFr4 := block_free hEr4
    simp only [List.getElem?_toArray, List.getElem?_cons_zero, List.getElem?_cons_succ] at hGr4_0 hGr4_1
    clear hEr4
    try simp only [World.size_alloc, World.size_setCell, World.size_drew] at hBr4
    obtain ⟨hcr4, hfr4⟩ := bcell hbr4
    have hzr4 := hbr4.size
    try simp only [World.size_alloc, World.size_setCell, World.size_drew] at hzr4
    have hlr4w0 : w.heap.size < r4.heap.size := by omega
    have hlr4w1 : w.heap.size + 1 < r4.heap.size := by omega
    have hlr4w2 : w.heap.size + 1 + 1 < r4.heap.size := by omega
    have hlr4w3 : w.heap.size + 1 + 1 + 1 < r4.heap.size := by omega
    go_wp2_with fail
    rw [rounds_succ]
    go_wp2_with fail
    have hecr5 := @Ext.cell2
    refine wp_region_floatl 8 7 _ _ _ _ _ (.cells #[.int .u16 0, .int .u16 0] 25) (by kernel_rfl) rfl rfl (by kernel_rfl) (by kernel_rfl) rfl rfl rfl rfl (fun _ _ => by simp [go_sem]) (fun _ _ d _ _ h => by cases d <;> exact h) (by kernel_rfl) (by kernel_rfl) rfl ?_
    apply Exists.intro
    refine ⟨fun W' => ?_, ?_⟩
    · simp only [List.take_succ_cons, List.take_zero]
      repeat (first | go_big_quiet_skip | (go_big_quiet_want; go_big_quiet_op; first | go_big_quiet_on | (go_big_quiet_call ((first | fail | (go_at_call 82; exact ext_call (dot_w _ _ _ _ _ _ _ _ _ _ _ _ (by assumption) (by assumption) (by assumption) (by assumption) (by assumption) (by assumption) (by assumption) (by assumption) (by assumption) (by assumption) (by assumption) (by assumption) _)))))))
      exact wpQuiet_nil rfl
    clear hecr5
    simp only [List.drop_succ_cons, List.drop_zero, Act.put, List.setIfInBounds_toArray, List.set_cons_zero, List.set_cons_succ]
    intro B5 r5 hbr5 hBr5 hDr5 hEr5
    have hGr5_0 := block_cell hEr5 0
    have hGr5_1 := block_cell hEr5 1
    have hFr5 := block_free hEr5
    simp only [List.getElem?_toArray, List.getElem?_cons_zero, List.getElem?_cons_succ] at hGr5_0 hGr5_1
    clear hEr5
    try simp only [World.size_alloc, World.size_setCell, World.size_drew] at hBr5
    obtain ⟨hcr5, hfr5⟩ := bcell hbr5
    have hzr5 := hbr5.size
    try simp only [World.size_alloc, World.size_setCell, World.size_drew] at hzr5
    have hlr5w0 : w.heap.size < r5.heap.size := by omega
    have hlr5w1 : w.heap.size + 1 < r5.heap.size := by omega
    have hlr5w2 : w.heap.size + 1 + 1 < r5.heap.size := by omega
    have hlr5w3 : w.heap.size + 1 + 1 + 1 < r5.heap.size := by omega
    have hlr5B4 : B4 < r5.heap.size := by omega
    go_wp2_with fail
    rw [rounds_succ]
    go_wp2_with fail
    have hecr6 := @Ext.cell2
    refine wp_region_floatl 8 7 _ _ _ _ _ (.cells #[.int .u16 0, .int .u16 0] 25) (by kernel_rfl) rfl rfl (by kernel_rfl) (by kernel_rfl) rfl rfl rfl rfl (fun _ _ => by simp [go_sem]) (fun _ _ d _ _ h => by cases d <;> exact h) (by kernel_rfl) (by kernel_rfl) rfl ?_
    apply Exists.intro
    refine ⟨fun W' => ?_, ?_⟩
    · simp only [List.take_succ_cons, List.take_zero]
      repeat (first | go_big_quiet_skip | (go_big_quiet_want; go_big_quiet_op; first | go_big_quiet_on | (go_big_quiet_call ((first | fail | (go_at_call 82; exact ext_call (dot_w _ _ _ _ _ _ _ _ _ _ _ _ (by assumption) (by assumption) (by assumption) (by assumption) (by assumption) (by assumption) (by assumption) (by assumption) (by assumption) (by assumption) (by assumption) (by assumption) _)))))))
      exact wpQuiet_nil rfl
    clear hecr6
    simp only [List.drop_succ_cons, List.drop_zero, Act.put, List.setIfInBounds_toArray, List.set_cons_zero, List.set_cons_succ]
    intro B6 r6 hbr6 hBr6 hDr6 hEr6
    have hGr6_0 := block_cell hEr6 0
    have hGr6_1 := block_cell hEr6 1
    have hFr6 := block_free hEr6
    simp only [List.getElem?_toArray, List.getElem?_cons_zero, List.getElem?_cons_succ] at hGr6_0 hGr6_1
    clear hEr6
    try simp only [World.size_alloc, World.size_setCell, World.size_drew] at hBr6
    obtain ⟨hcr6, hfr6⟩ := bcell hbr6
    have hzr6 := hbr6.size
    try simp only [World.size_alloc, World.size_setCell, World.size_drew] at hzr6
    have hlr6w0 : w.heap.size < r6.heap.size := by omega
    have hlr6w1 : w.heap.size + 1 < r6.heap.size := by omega
    have hlr6w2 : w.heap.size + 1 + 1 < r6.heap.size := by omega
    have hlr6w3 : w.heap.size + 1 + 1 + 1 < r6.heap.size := by omega
    have hlr6B4 : B4 < r6.heap.size := by omega
    have hlr6B5 : B5 < r6.heap.size := by omega
    go_wp2_with fail
    rw [rounds_succ]
    go_wp2
    refine bodyPost_ret (v := (.tuple #[(.agg #[.int .u16 (hi (sat (rnd (dot (val m00 m01) (val m02 m03) (val m04 m05) (val a0 a1) (val a2 a3) (val a4 a5)) 268435456) 268435455)), .int .u16 (lo (sat (rnd (dot (val m00 m01) (val m02 m03) (val m04 m05) (val a0 a1) (val a2 a3) (val a4 a5)) 268435456) 268435455)), .int .u16 (hi (sat (rnd (dot (val m10 m11) (val m12 m13) (val m14 m15) (val a0 a1) (val a2 a3) (val a4 a5)) 268435456) 268435455)), .int .u16 (lo (sat (rnd (dot (val m10 m11) (val m12 m13) (val m14 m15) (val a0 a1) (val a2 a3) (val a4 a5)) 268435456) 268435455)), .int .u16 (hi (sat (rnd (dot (val m20 m21) (val m22 m23) (val m24 m25) (val a0 a1) (val a2 a3) (val a4 a5)) 268435456) 268435455)), .int .u16 (lo (sat (rnd (dot (val m20 m21) (val m22 m23) (val m24 m25) (val a0 a1) (val a2 a3) (val a4 a5)) 268435456) 268435455))]), .bool ((outb (rnd (dot (val m00 m01) (val m02 m03) (val m04 m05) (val a0 a1) (val a2 a3) (val a4 a5)) 268435456) 268435455) || (outb (rnd (dot (val m10 m11) (val m12 m13) (val m14 m15) (val a0 a1) (val a2 a3) (val a4 a5)) 268435456) 268435455) || (outb (rnd (dot (val m20 m21) (val m22 m23) (val m24 m25) (val a0 a1) (val a2 a3) (val a4 a5)) 268435456) 268435455))])) (by simp [results, Tryd.results58, go_sem, *]) rfl ⟨by rw [q0, q1], ?_⟩; exact (by repeat' (first | (with_reducible exact Below.refl _ _) | (with_reducible refine bl_set ?_ _ ?_) | (with_reducible refine bl_alloc ?_ _) | (with_reducible refine bl_drew ?_) | (with_reducible refine bl_via (by with_reducible assumption) ?_) | (with_reducible assumption) | omega | (simp only []; omega) | (simp; omega)))
end Go.Proofs.YtbbhppjamighdaaDoor
