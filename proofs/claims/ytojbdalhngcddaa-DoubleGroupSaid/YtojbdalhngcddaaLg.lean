/- The walk of DoubleGroup: for all words it returns true. -/
import Derived.Test.YtojbdalhngcddaaLa
import Derived.Test.YtojbdalhngcddaaKd
namespace Go.Proofs.Ytojbdalhngcddaa
set_option linter.unusedSimpArgs false
set_option linter.unusedVariables false
open Go.RowKit

theorem sat_neg (v m : Int) (h : 0 ≤ m) : sat (-v) m = -sat v m := by unfold sat; (repeat' split) <;> omega
theorem outb_neg (v m : Int) : outb (-v) m = outb v m := by unfold outb; exact decide_eq_decide.2 ⟨fun h => by omega, fun h => by omega⟩

set_option maxHeartbeats 1000000 in
theorem group_law (x y z u : Int) (hx0 : 0 ≤ x) (hx1 : x < 65536) (hy0 : 0 ≤ y) (hy1 : y < 65536) (hz0 : 0 ≤ z) (hz1 : z < 65536) (hu0 : 0 ≤ u) (hu1 : u < 65536) (w : World) :
    Calls Try.prog 5 #[(.agg #[.int .u16 (x), .int .u16 (y)]), (.agg #[.int .u16 (z), .int .u16 (u)])] w fun e w' => e = .returned (.bool true) ∧ Below w.heap.size w w' := by
  have heq := @eq_dbl
  have k0 := val_lo x y
  have k1 := val_hi x y
  have k2 := val_lo z u
  have k3 := val_hi z u
  obtain ⟨a0, a1', a2, a3'⟩ := hi_lo (-val x y) (by omega) (by omega)
  have a1 : hi (-val x y) < 65536 := by omega
  have a3 : lo (-val x y) < 65536 := by omega
  have av := val_of (-val x y) (by omega) (by omega)
  obtain ⟨b0, b1', b2, b3'⟩ := hi_lo (-val z u) (by omega) (by omega)
  have b1 : hi (-val z u) < 65536 := by omega
  have b3 : lo (-val z u) < 65536 := by omega
  have bv := val_of (-val z u) (by omega) (by omega)
  have s0 := sat_lo (val x y + val z u) 268435455 (by omega)
  have s1 := sat_hi (val x y + val z u) 268435455 (by omega)
  obtain ⟨c0, c1', c2, c3'⟩ := hi_lo (sat (val x y + val z u) 268435455) s0 s1
  have c1 : hi (sat (val x y + val z u) 268435455) < 65536 := by omega
  have c3 : lo (sat (val x y + val z u) 268435455) < 65536 := by omega
  have cv := val_of (sat (val x y + val z u) 268435455) s0 s1
  have e1 : val z u + val x y = val x y + val z u := Int.add_comm _ _
  have e2 : sat (-val x y + -val z u) 268435455 = -sat (val x y + val z u) 268435455 := by rw [← Int.neg_add, sat_neg _ _ (by omega)]
  have e3 : outb (-val x y + -val z u) 268435455 = outb (val x y + val z u) 268435455 := by rw [← Int.neg_add, outb_neg]
  have e4 : val x y + -val x y = 0 := by omega
  have e5 : val x y - -val z u = val x y + val z u := by omega
  have z0 : val 0 0 = 0 := by decide +kernel
  have z1 : hi 0 = 0 := by decide +kernel
  have z2 : lo 0 = 0 := by decide +kernel
  have f1 := sat_in (val x y) 268435455 k0 k1
  have f2 := outb_in (val x y) 268435455 k0 k1
  have f3 : sat 0 268435455 = 0 := by decide +kernel
  have f4 : outb 0 268435455 = false := by decide +kernel
  by_cases hc : -268435455 ≤ val x y + val z u ∧ val x y + val z u ≤ 268435455
  · have g1 := outb_in (val x y + val z u) 268435455 hc.1 hc.2
    have g2 : sat (sat (val x y + val z u) 268435455 - val z u) 268435455 = val x y := by rw [sat_in _ _ hc.1 hc.2, show val x y + val z u - val z u = val x y from by omega, f1]
    have g3 : outb (sat (val x y + val z u) 268435455 - val z u) 268435455 = false := by rw [sat_in _ _ hc.1 hc.2, show val x y + val z u - val z u = val x y from by omega, f2]
    clear hc
    go_enter Try.func5, Try.ntmps5
    go_wp2_with fail
    refine (lives_any _).mono ?_
    rintro _ r1 ⟨rfl, hbr1⟩
    obtain ⟨hcr1, hfr1⟩ := bcell hbr1
    have hzr1 := hbr1.size
    try simp only [World.size_alloc, World.size_setCell, World.size_drew] at hzr1
    have hlr1w0 : w.heap.size < r1.heap.size := by omega
    have hlr1w1 : w.heap.size + 1 < r1.heap.size := by omega
    go_wp2_with fail
    refine (add_any x y z u hx0 hx1 hy0 hy1 hz0 hz1 hu0 hu1 _).mono ?_
    rintro _ r2 ⟨rfl, hbr2⟩
    obtain ⟨hcr2, hfr2⟩ := bcell hbr2
    have hzr2 := hbr2.size
    try simp only [World.size_alloc, World.size_setCell, World.size_drew] at hzr2
    have hlr2w0 : w.heap.size < r2.heap.size := by omega
    have hlr2w1 : w.heap.size + 1 < r2.heap.size := by omega
    go_wp2_with fail
    refine (add_any z u x y hz0 hz1 hu0 hu1 hx0 hx1 hy0 hy1 _).mono ?_
    rintro _ r3 ⟨rfl, hbr3⟩
    obtain ⟨hcr3, hfr3⟩ := bcell hbr3
    have hzr3 := hbr3.size
    try simp only [World.size_alloc, World.size_setCell, World.size_drew] at hzr3
    have hlr3w0 : w.heap.size < r3.heap.size := by omega
    have hlr3w1 : w.heap.size + 1 < r3.heap.size := by omega
    have hlr3r20 : r2.heap.size < r3.heap.size := by omega
    go_wp2_with fail
    refine (add_any x y 0 0 hx0 hx1 hy0 hy1 (by omega) (by omega) (by omega) (by omega) _).mono ?_
    rintro _ r4 ⟨rfl, hbr4⟩
    obtain ⟨hcr4, hfr4⟩ := bcell hbr4
    have hzr4 := hbr4.size
    try simp only [World.size_alloc, World.size_setCell, World.size_drew] at hzr4
    have hlr4w0 : w.heap.size < r4.heap.size := by omega
    have hlr4w1 : w.heap.size + 1 < r4.heap.size := by omega
    have hlr4r20 : r2.heap.size < r4.heap.size := by omega
    have hlr4r30 : r3.heap.size < r4.heap.size := by omega
    go_wp2_with fail
    have hecr5 := @Ext.cell2
    refine wp_region_floatl 7 6 _ _ _ _ _ (.cells #[.int .u16 0, .int .u16 0] 25) (by kernel_rfl) rfl rfl (by kernel_rfl) (by kernel_rfl) rfl rfl rfl rfl (fun _ _ => by simp [go_sem]) (fun _ _ d _ _ h => by cases d <;> exact h) (by kernel_rfl) (by kernel_rfl) rfl ?_
    apply Exists.intro
    refine ⟨fun W' => ?_, ?_⟩
    · simp only [List.take_succ_cons, List.take_zero]
      repeat (first | go_big_quiet_skip | (go_big_quiet_want; go_big_quiet_op; first | go_big_quiet_on | (go_big_quiet_call ((first | fail | (go_at_call 19; exact ext_call (neg_any _ _ (by assumption) (by assumption) (by assumption) (by assumption) _)) | (go_at_call 18; exact ext_call (add_any _ _ _ _ (by assumption) (by assumption) (by assumption) (by assumption) (by assumption) (by assumption) (by assumption) (by assumption) _)))))))
      exact wpQuiet_nil rfl
    clear hecr5
    simp only [List.drop_succ_cons, List.drop_zero, Act.put, List.setIfInBounds_toArray, List.set_cons_zero, List.set_cons_succ]
    intro B5 r5 hbr5 hBr5 hDr5 hEr5
    have hGr5_0 := block_cell hEr5 0
    have hGr5_1 := block_cell hEr5 1
    have hFr5 := block_free hEr5
    simp only [List.getElem?_toArray, List.getElem?_cons_zero, List.getElem?_cons_succ] at hGr5_0 hGr5_1
    clear hEr5
    try simp only [World.size_alloc, World.size_setCell, World.size_drew] at hBr5
    obtain ⟨hcr5, hfr5⟩ := bcell hbr5
    have hzr5 := hbr5.size
    try simp only [World.size_alloc, World.size_setCell, World.size_drew] at hzr5
    have hlr5w0 : w.heap.size < r5.heap.size := by omega
    have hlr5w1 : w.heap.size + 1 < r5.heap.size := by omega
    have hlr5r20 : r2.heap.size < r5.heap.size := by omega
    have hlr5r30 : r3.heap.size < r5.heap.size := by omega
    have hlr5r40 : r4.heap.size < r5.heap.size := by omega
    go_wp2_with fail
    have hecr6 := @Ext.cell2
    refine wp_region_floatl 8 7 _ _ _ _ _ (.cells #[.int .u16 0, .int .u16 0] 25) (by kernel_rfl) rfl rfl (by kernel_rfl) (by kernel_rfl) rfl rfl rfl rfl (fun _ _ => by simp [go_sem]) (fun _ _ d _ _ h => by cases d <;> exact h) (by kernel_rfl) (by kernel_rfl) rfl ?_
    apply Exists.intro
    refine ⟨fun W' => ?_, ?_⟩
    · simp only [List.take_succ_cons, List.take_zero]
      repeat (first | go_big_quiet_skip | (go_big_quiet_want; go_big_quiet_op; first | go_big_quiet_on | (go_big_quiet_call ((first | fail | (go_at_call 19; exact ext_call (neg_any _ _ (by assumption) (by assumption) (by assumption) (by assumption) _)) | (go_at_call 18; exact ext_call (add_any _ _ _ _ (by assumption) (by assumption) (by assumption) (by assumption) (by assumption) (by assumption) (by assumption) (by assumption) _)))))))
      exact wpQuiet_nil rfl
    clear hecr6
    simp only [List.drop_succ_cons, List.drop_zero, Act.put, List.setIfInBounds_toArray, List.set_cons_zero, List.set_cons_succ]
    intro B6 r6 hbr6 hBr6 hDr6 hEr6
    have hGr6_0 := block_cell hEr6 0
    have hGr6_1 := block_cell hEr6 1
    have hFr6 := block_free hEr6
    simp only [List.getElem?_toArray, List.getElem?_cons_zero, List.getElem?_cons_succ] at hGr6_0 hGr6_1
    clear hEr6
    try simp only [World.size_alloc, World.size_setCell, World.size_drew] at hBr6
    obtain ⟨hcr6, hfr6⟩ := bcell hbr6
    have hzr6 := hbr6.size
    try simp only [World.size_alloc, World.size_setCell, World.size_drew] at hzr6
    have hlr6w0 : w.heap.size < r6.heap.size := by omega
    have hlr6w1 : w.heap.size + 1 < r6.heap.size := by omega
    have hlr6r20 : r2.heap.size < r6.heap.size := by omega
    have hlr6r30 : r3.heap.size < r6.heap.size := by omega
    have hlr6r40 : r4.heap.size < r6.heap.size := by omega
    have hlr6B5 : B5 < r6.heap.size := by omega
    go_wp2_with fail
    have hecr7 := @Ext.cell2
    refine wp_region_floatl 7 6 _ _ _ _ _ (.cells #[.int .u16 0, .int .u16 0] 25) (by kernel_rfl) rfl rfl (by kernel_rfl) (by kernel_rfl) rfl rfl rfl rfl (fun _ _ => by simp [go_sem]) (fun _ _ d _ _ h => by cases d <;> exact h) (by kernel_rfl) (by kernel_rfl) rfl ?_
    apply Exists.intro
    refine ⟨fun W' => ?_, ?_⟩
    · simp only [List.take_succ_cons, List.take_zero]
      repeat (first | go_big_quiet_skip | (go_big_quiet_want; go_big_quiet_op; first | go_big_quiet_on | (go_big_quiet_call ((first | fail | (go_at_call 19; exact ext_call (neg_any _ _ (by assumption) (by assumption) (by assumption) (by assumption) _)) | (go_at_call 20; exact ext_call (sub_any _ _ _ _ (by assumption) (by assumption) (by assumption) (by assumption) (by assumption) (by assumption) (by assumption) (by assumption) _)))))))
      exact wpQuiet_nil rfl
    clear hecr7
    simp only [List.drop_succ_cons, List.drop_zero, Act.put, List.setIfInBounds_toArray, List.set_cons_zero, List.set_cons_succ]
    intro B7 r7 hbr7 hBr7 hDr7 hEr7
    have hGr7_0 := block_cell hEr7 0
    have hGr7_1 := block_cell hEr7 1
    have hFr7 := block_free hEr7
    simp only [List.getElem?_toArray, List.getElem?_cons_zero, List.getElem?_cons_succ] at hGr7_0 hGr7_1
    clear hEr7
    try simp only [World.size_alloc, World.size_setCell, World.size_drew] at hBr7
    obtain ⟨hcr7, hfr7⟩ := bcell hbr7
    have hzr7 := hbr7.size
    try simp only [World.size_alloc, World.size_setCell, World.size_drew] at hzr7
    have hlr7w0 : w.heap.size < r7.heap.size := by omega
    have hlr7w1 : w.heap.size + 1 < r7.heap.size := by omega
    have hlr7r20 : r2.heap.size < r7.heap.size := by omega
    have hlr7r30 : r3.heap.size < r7.heap.size := by omega
    have hlr7r40 : r4.heap.size < r7.heap.size := by omega
    have hlr7B5 : B5 < r7.heap.size := by omega
    have hlr7B6 : B6 < r7.heap.size := by omega
    go_wp2_with fail
    have hecr8 := @Ext.cell
    refine wp_region_ext (by kernel_rfl) (by kernel_rfl) ?_
    repeat (first | go_big_quiet_skip | (go_big_quiet_want; go_big_quiet_op; first | go_big_quiet_on | (go_big_quiet_call ((first | fail | (go_at_call 19; exact ext_call (neg_any _ _ (by assumption) (by assumption) (by assumption) (by assumption) _)) | (go_at_call 17; exact ext_call (canon_any _ _ (by assumption) (by assumption) (by assumption) (by assumption) _)))))))
    clear hecr8
    refine wpQuiet_nil ?_
    rintro r8 ⟨⟨_, hbr8⟩, rfl⟩
    obtain ⟨hcr8, hfr8⟩ := bcell hbr8
    have hzr8 := hbr8.size
    try simp only [World.size_alloc, World.size_setCell, World.size_drew] at hzr8
    have hlr8w0 : w.heap.size < r8.heap.size := by omega
    have hlr8w1 : w.heap.size + 1 < r8.heap.size := by omega
    have hlr8r20 : r2.heap.size < r8.heap.size := by omega
    have hlr8r30 : r3.heap.size < r8.heap.size := by omega
    have hlr8r40 : r4.heap.size < r8.heap.size := by omega
    have hlr8B5 : B5 < r8.heap.size := by omega
    have hlr8B6 : B6 < r8.heap.size := by omega
    have hlr8B7 : B7 < r8.heap.size := by omega
    go_wp2_with fail
    refine (sub_any (hi (sat (val x y + val z u) 268435455)) (lo (sat (val x y + val z u) 268435455)) z u c0 c1 c2 c3 hz0 hz1 hu0 hu1 _).mono ?_
    rintro _ r9 ⟨rfl, hbr9⟩
    obtain ⟨hcr9, hfr9⟩ := bcell hbr9
    have hzr9 := hbr9.size
    try simp only [World.size_alloc, World.size_setCell, World.size_drew] at hzr9
    have hlr9w0 : w.heap.size < r9.heap.size := by omega
    have hlr9w1 : w.heap.size + 1 < r9.heap.size := by omega
    have hlr9r20 : r2.heap.size < r9.heap.size := by omega
    have hlr9r30 : r3.heap.size < r9.heap.size := by omega
    have hlr9r40 : r4.heap.size < r9.heap.size := by omega
    have hlr9B5 : B5 < r9.heap.size := by omega
    have hlr9B6 : B6 < r9.heap.size := by omega
    have hlr9B7 : B7 < r9.heap.size := by omega
    go_wp2_with fail
    have hecr10 := @Ext.cell
    refine wp_region_ext (by kernel_rfl) (by kernel_rfl) ?_
    repeat (first | go_big_quiet_skip | (go_big_quiet_want; go_big_quiet_op; first | go_big_quiet_on | (go_big_quiet_call ((first | fail | (go_at_call 17; exact ext_call (canon_any _ _ (by assumption) (by assumption) (by assumption) (by assumption) _)))))))
    clear hecr10
    refine wpQuiet_nil ?_
    rintro r10 ⟨⟨_, hbr10⟩, rfl⟩
    obtain ⟨hcr10, hfr10⟩ := bcell hbr10
    have hzr10 := hbr10.size
    try simp only [World.size_alloc, World.size_setCell, World.size_drew] at hzr10
    have hlr10w0 : w.heap.size < r10.heap.size := by omega
    have hlr10w1 : w.heap.size + 1 < r10.heap.size := by omega
    have hlr10r20 : r2.heap.size < r10.heap.size := by omega
    have hlr10r30 : r3.heap.size < r10.heap.size := by omega
    have hlr10r40 : r4.heap.size < r10.heap.size := by omega
    have hlr10B5 : B5 < r10.heap.size := by omega
    have hlr10B6 : B6 < r10.heap.size := by omega
    have hlr10B7 : B7 < r10.heap.size := by omega
    have hlr10r90 : r9.heap.size < r10.heap.size := by omega
    go_wp2
    go_ret
    exact ⟨rfl, (by repeat' (first | exact Below.refl _ _ | refine bl_alloc ?_ _ | refine bl_drew ?_ | refine bl_set ?_ _ ?_ | refine bl_via (by assumption) ?_ | (simp only []; omega) | omega | (simp; omega)))⟩
  · have g1 : outb (val x y + val z u) 268435455 = true := decide_eq_true (by omega)
    clear hc
    go_enter Try.func5, Try.ntmps5
    go_wp2_with fail
    refine (lives_any _).mono ?_
    rintro _ r1 ⟨rfl, hbr1⟩
    obtain ⟨hcr1, hfr1⟩ := bcell hbr1
    have hzr1 := hbr1.size
    try simp only [World.size_alloc, World.size_setCell, World.size_drew] at hzr1
    have hlr1w0 : w.heap.size < r1.heap.size := by omega
    have hlr1w1 : w.heap.size + 1 < r1.heap.size := by omega
    go_wp2_with fail
    refine (add_any x y z u hx0 hx1 hy0 hy1 hz0 hz1 hu0 hu1 _).mono ?_
    rintro _ r2 ⟨rfl, hbr2⟩
    obtain ⟨hcr2, hfr2⟩ := bcell hbr2
    have hzr2 := hbr2.size
    try simp only [World.size_alloc, World.size_setCell, World.size_drew] at hzr2
    have hlr2w0 : w.heap.size < r2.heap.size := by omega
    have hlr2w1 : w.heap.size + 1 < r2.heap.size := by omega
    go_wp2_with fail
    refine (add_any z u x y hz0 hz1 hu0 hu1 hx0 hx1 hy0 hy1 _).mono ?_
    rintro _ r3 ⟨rfl, hbr3⟩
    obtain ⟨hcr3, hfr3⟩ := bcell hbr3
    have hzr3 := hbr3.size
    try simp only [World.size_alloc, World.size_setCell, World.size_drew] at hzr3
    have hlr3w0 : w.heap.size < r3.heap.size := by omega
    have hlr3w1 : w.heap.size + 1 < r3.heap.size := by omega
    have hlr3r20 : r2.heap.size < r3.heap.size := by omega
    go_wp2_with fail
    refine (add_any x y 0 0 hx0 hx1 hy0 hy1 (by omega) (by omega) (by omega) (by omega) _).mono ?_
    rintro _ r4 ⟨rfl, hbr4⟩
    obtain ⟨hcr4, hfr4⟩ := bcell hbr4
    have hzr4 := hbr4.size
    try simp only [World.size_alloc, World.size_setCell, World.size_drew] at hzr4
    have hlr4w0 : w.heap.size < r4.heap.size := by omega
    have hlr4w1 : w.heap.size + 1 < r4.heap.size := by omega
    have hlr4r20 : r2.heap.size < r4.heap.size := by omega
    have hlr4r30 : r3.heap.size < r4.heap.size := by omega
    go_wp2_with fail
    have hecr5 := @Ext.cell2
    refine wp_region_floatl 7 6 _ _ _ _ _ (.cells #[.int .u16 0, .int .u16 0] 25) (by kernel_rfl) rfl rfl (by kernel_rfl) (by kernel_rfl) rfl rfl rfl rfl (fun _ _ => by simp [go_sem]) (fun _ _ d _ _ h => by cases d <;> exact h) (by kernel_rfl) (by kernel_rfl) rfl ?_
    apply Exists.intro
    refine ⟨fun W' => ?_, ?_⟩
    · simp only [List.take_succ_cons, List.take_zero]
      repeat (first | go_big_quiet_skip | (go_big_quiet_want; go_big_quiet_op; first | go_big_quiet_on | (go_big_quiet_call ((first | fail | (go_at_call 19; exact ext_call (neg_any _ _ (by assumption) (by assumption) (by assumption) (by assumption) _)) | (go_at_call 18; exact ext_call (add_any _ _ _ _ (by assumption) (by assumption) (by assumption) (by assumption) (by assumption) (by assumption) (by assumption) (by assumption) _)))))))
      exact wpQuiet_nil rfl
    clear hecr5
    simp only [List.drop_succ_cons, List.drop_zero, Act.put, List.setIfInBounds_toArray, List.set_cons_zero, List.set_cons_succ]
    intro B5 r5 hbr5 hBr5 hDr5 hEr5
    have hGr5_0 := block_cell hEr5 0
    have hGr5_1 := block_cell hEr5 1
    have hFr5 := block_free hEr5
    simp only [List.getElem?_toArray, List.getElem?_cons_zero, List.getElem?_cons_succ] at hGr5_0 hGr5_1
    clear hEr5
    try simp only [World.size_alloc, World.size_setCell, World.size_drew] at hBr5
    obtain ⟨hcr5, hfr5⟩ := bcell hbr5
    have hzr5 := hbr5.size
    try simp only [World.size_alloc, World.size_setCell, World.size_drew] at hzr5
    have hlr5w0 : w.heap.size < r5.heap.size := by omega
    have hlr5w1 : w.heap.size + 1 < r5.heap.size := by omega
    have hlr5r20 : r2.heap.size < r5.heap.size := by omega
    have hlr5r30 : r3.heap.size < r5.heap.size := by omega
    have hlr5r40 : r4.heap.size < r5.heap.size := by omega
    go_wp2_with fail
    have hecr6 := @Ext.cell2
    refine wp_region_floatl 8 7 _ _ _ _ _ (.cells #[.int .u16 0, .int .u16 0] 25) (by kernel_rfl) rfl rfl (by kernel_rfl) (by kernel_rfl) rfl rfl rfl rfl (fun _ _ => by simp [go_sem]) (fun _ _ d _ _ h => by cases d <;> exact h) (by kernel_rfl) (by kernel_rfl) rfl ?_
    apply Exists.intro
    refine ⟨fun W' => ?_, ?_⟩
    · simp only [List.take_succ_cons, List.take_zero]
      repeat (first | go_big_quiet_skip | (go_big_quiet_want; go_big_quiet_op; first | go_big_quiet_on | (go_big_quiet_call ((first | fail | (go_at_call 19; exact ext_call (neg_any _ _ (by assumption) (by assumption) (by assumption) (by assumption) _)) | (go_at_call 18; exact ext_call (add_any _ _ _ _ (by assumption) (by assumption) (by assumption) (by assumption) (by assumption) (by assumption) (by assumption) (by assumption) _)))))))
      exact wpQuiet_nil rfl
    clear hecr6
    simp only [List.drop_succ_cons, List.drop_zero, Act.put, List.setIfInBounds_toArray, List.set_cons_zero, List.set_cons_succ]
    intro B6 r6 hbr6 hBr6 hDr6 hEr6
    have hGr6_0 := block_cell hEr6 0
    have hGr6_1 := block_cell hEr6 1
    have hFr6 := block_free hEr6
    simp only [List.getElem?_toArray, List.getElem?_cons_zero, List.getElem?_cons_succ] at hGr6_0 hGr6_1
    clear hEr6
    try simp only [World.size_alloc, World.size_setCell, World.size_drew] at hBr6
    obtain ⟨hcr6, hfr6⟩ := bcell hbr6
    have hzr6 := hbr6.size
    try simp only [World.size_alloc, World.size_setCell, World.size_drew] at hzr6
    have hlr6w0 : w.heap.size < r6.heap.size := by omega
    have hlr6w1 : w.heap.size + 1 < r6.heap.size := by omega
    have hlr6r20 : r2.heap.size < r6.heap.size := by omega
    have hlr6r30 : r3.heap.size < r6.heap.size := by omega
    have hlr6r40 : r4.heap.size < r6.heap.size := by omega
    have hlr6B5 : B5 < r6.heap.size := by omega
    go_wp2_with fail
    have hecr7 := @Ext.cell2
    refine wp_region_floatl 7 6 _ _ _ _ _ (.cells #[.int .u16 0, .int .u16 0] 25) (by kernel_rfl) rfl rfl (by kernel_rfl) (by kernel_rfl) rfl rfl rfl rfl (fun _ _ => by simp [go_sem]) (fun _ _ d _ _ h => by cases d <;> exact h) (by kernel_rfl) (by kernel_rfl) rfl ?_
    apply Exists.intro
    refine ⟨fun W' => ?_, ?_⟩
    · simp only [List.take_succ_cons, List.take_zero]
      repeat (first | go_big_quiet_skip | (go_big_quiet_want; go_big_quiet_op; first | go_big_quiet_on | (go_big_quiet_call ((first | fail | (go_at_call 19; exact ext_call (neg_any _ _ (by assumption) (by assumption) (by assumption) (by assumption) _)) | (go_at_call 20; exact ext_call (sub_any _ _ _ _ (by assumption) (by assumption) (by assumption) (by assumption) (by assumption) (by assumption) (by assumption) (by assumption) _)))))))
      exact wpQuiet_nil rfl
    clear hecr7
    simp only [List.drop_succ_cons, List.drop_zero, Act.put, List.setIfInBounds_toArray, List.set_cons_zero, List.set_cons_succ]
    intro B7 r7 hbr7 hBr7 hDr7 hEr7
    have hGr7_0 := block_cell hEr7 0
    have hGr7_1 := block_cell hEr7 1
    have hFr7 := block_free hEr7
    simp only [List.getElem?_toArray, List.getElem?_cons_zero, List.getElem?_cons_succ] at hGr7_0 hGr7_1
    clear hEr7
    try simp only [World.size_alloc, World.size_setCell, World.size_drew] at hBr7
    obtain ⟨hcr7, hfr7⟩ := bcell hbr7
    have hzr7 := hbr7.size
    try simp only [World.size_alloc, World.size_setCell, World.size_drew] at hzr7
    have hlr7w0 : w.heap.size < r7.heap.size := by omega
    have hlr7w1 : w.heap.size + 1 < r7.heap.size := by omega
    have hlr7r20 : r2.heap.size < r7.heap.size := by omega
    have hlr7r30 : r3.heap.size < r7.heap.size := by omega
    have hlr7r40 : r4.heap.size < r7.heap.size := by omega
    have hlr7B5 : B5 < r7.heap.size := by omega
    have hlr7B6 : B6 < r7.heap.size := by omega
    go_wp2_with fail
    have hecr8 := @Ext.cell
    refine wp_region_ext (by kernel_rfl) (by kernel_rfl) ?_
    repeat (first | go_big_quiet_skip | (go_big_quiet_want; go_big_quiet_op; first | go_big_quiet_on | (go_big_quiet_call ((first | fail | (go_at_call 19; exact ext_call (neg_any _ _ (by assumption) (by assumption) (by assumption) (by assumption) _)) | (go_at_call 17; exact ext_call (canon_any _ _ (by assumption) (by assumption) (by assumption) (by assumption) _)))))))
    clear hecr8
    refine wpQuiet_nil ?_
    rintro r8 ⟨⟨_, hbr8⟩, rfl⟩
    obtain ⟨hcr8, hfr8⟩ := bcell hbr8
    have hzr8 := hbr8.size
    try simp only [World.size_alloc, World.size_setCell, World.size_drew] at hzr8
    have hlr8w0 : w.heap.size < r8.heap.size := by omega
    have hlr8w1 : w.heap.size + 1 < r8.heap.size := by omega
    have hlr8r20 : r2.heap.size < r8.heap.size := by omega
    have hlr8r30 : r3.heap.size < r8.heap.size := by omega
    have hlr8r40 : r4.heap.size < r8.heap.size := by omega
    have hlr8B5 : B5 < r8.heap.size := by omega
    have hlr8B6 : B6 < r8.heap.size := by omega
    have hlr8B7 : B7 < r8.heap.size := by omega
    go_wp2_with fail
    refine (sub_any (hi (sat (val x y + val z u) 268435455)) (lo (sat (val x y + val z u) 268435455)) z u c0 c1 c2 c3 hz0 hz1 hu0 hu1 _).mono ?_
    rintro _ r9 ⟨rfl, hbr9⟩
    obtain ⟨hcr9, hfr9⟩ := bcell hbr9
    have hzr9 := hbr9.size
    try simp only [World.size_alloc, World.size_setCell, World.size_drew] at hzr9
    have hlr9w0 : w.heap.size < r9.heap.size := by omega
    have hlr9w1 : w.heap.size + 1 < r9.heap.size := by omega
    have hlr9r20 : r2.heap.size < r9.heap.size := by omega
    have hlr9r30 : r3.heap.size < r9.heap.size := by omega
    have hlr9r40 : r4.heap.size < r9.heap.size := by omega
    have hlr9B5 : B5 < r9.heap.size := by omega
    have hlr9B6 : B6 < r9.heap.size := by omega
    have hlr9B7 : B7 < r9.heap.size := by omega
    go_wp2_with fail
    have hecr10 := @Ext.cell
    refine wp_region_ext (by kernel_rfl) (by kernel_rfl) ?_
    repeat (first | go_big_quiet_skip | (go_big_quiet_want; go_big_quiet_op; first | go_big_quiet_on | (go_big_quiet_call ((first | fail | (go_at_call 17; exact ext_call (canon_any _ _ (by assumption) (by assumption) (by assumption) (by assumption) _)))))))
    clear hecr10
    refine wpQuiet_nil ?_
    rintro r10 ⟨⟨_, hbr10⟩, rfl⟩
    obtain ⟨hcr10, hfr10⟩ := bcell hbr10
    have hzr10 := hbr10.size
    try simp only [World.size_alloc, World.size_setCell, World.size_drew] at hzr10
    have hlr10w0 : w.heap.size < r10.heap.size := by omega
    have hlr10w1 : w.heap.size + 1 < r10.heap.size := by omega
    have hlr10r20 : r2.heap.size < r10.heap.size := by omega
    have hlr10r30 : r3.heap.size < r10.heap.size := by omega
    have hlr10r40 : r4.heap.size < r10.heap.size := by omega
    have hlr10B5 : B5 < r10.heap.size := by omega
    have hlr10B6 : B6 < r10.heap.size := by omega
    have hlr10B7 : B7 < r10.heap.size := by omega
    have hlr10r90 : r9.heap.size < r10.heap.size := by omega
    go_wp2
    go_ret
    exact ⟨rfl, (by repeat' (first | exact Below.refl _ _ | refine bl_alloc ?_ _ | refine bl_drew ?_ | refine bl_set ?_ _ ?_ | refine bl_via (by assumption) ?_ | (simp only []; omega) | omega | (simp; omega)))⟩
end Go.Proofs.Ytojbdalhngcddaa
