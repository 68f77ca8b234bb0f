/- Contracts of package vector over this translation: each at double.sub. -/
import Derived.Test.YtpmocegfiniafaaVa
import Derived.Test.YtpmocegfiniafaaFa
import Derived.Test.YtpmocegfiniafaaDb
namespace Go.Proofs.Ytpmocegfiniafaa
set_option linter.unusedSimpArgs false
set_option linter.unusedVariables false
open Go.RowKit

set_option maxRecDepth 100000 in
set_option maxHeartbeats 2000000 in
theorem each_sub (a b c d e f a' b' c' d' e' f' : Int) (ha0 : 0 ≤ a) (ha1 : a < 65536) (hb0 : 0 ≤ b) (hb1 : b < 65536) (hc0 : 0 ≤ c) (hc1 : c < 65536) (hd0 : 0 ≤ d) (hd1 : d < 65536) (he0 : 0 ≤ e) (he1 : e < 65536) (hf0 : 0 ≤ f) (hf1 : f < 65536) (ha'0 : 0 ≤ a') (ha'1 : a' < 65536) (hb'0 : 0 ≤ b') (hb'1 : b' < 65536) (hc'0 : 0 ≤ c') (hc'1 : c' < 65536) (hd'0 : 0 ≤ d') (hd'1 : d' < 65536) (he'0 : 0 ≤ e') (he'1 : e' < 65536) (hf'0 : 0 ≤ f') (hf'1 : f' < 65536) (w : World)  :
    Calls Try.prog 48 #[(.agg #[.int .u16 (a), .int .u16 (b), .int .u16 (c), .int .u16 (d), .int .u16 (e), .int .u16 (f)]), (.agg #[.int .u16 (a'), .int .u16 (b'), .int .u16 (c'), .int .u16 (d'), .int .u16 (e'), .int .u16 (f')]), .func (.func 49) #[] #[]] w fun r w' => r = .returned (.tuple #[(.agg #[.int .u16 (hi (sat (val a b - val a' b') 268435455)), .int .u16 (lo (sat (val a b - val a' b') 268435455)), .int .u16 (hi (sat (val c d - val c' d') 268435455)), .int .u16 (lo (sat (val c d - val c' d') 268435455)), .int .u16 (hi (sat (val e f - val e' f') 268435455)), .int .u16 (lo (sat (val e f - val e' f') 268435455))]), .bool ((outb (val a b - val a' b') 268435455) || (outb (val c d - val c' d') 268435455) || (outb (val e f - val e' f') 268435455))]) ∧ Below w.heap.size w w' := by
  cases q0 : (outb (val a b - val a' b') 268435455) <;> cases q1 : (outb (val c d - val c' d') 268435455)
  all_goals
    go_enter Try.func48, Try.ntmps48
    go_wp2_with fail
    refine wp_loop_rounds 4 ?_
    rw [rounds_succ]
    go_wp2_with fail
    have hecr1 := @Ext.cell2
    refine wp_region_floatl 11 10 _ _ _ _ _ (.cells #[.int .u16 0, .int .u16 0] 25) (by kernel_rfl) rfl rfl (by kernel_rfl) (by kernel_rfl) rfl rfl rfl rfl (fun _ _ => by simp [go_sem]) (fun _ _ d _ _ h => by cases d <;> exact h) (by kernel_rfl) (by kernel_rfl) rfl ?_
    apply Exists.intro
    refine ⟨fun W' => ?_, ?_⟩
    · simp only [List.take_succ_cons, List.take_zero]
      repeat (first | go_big_quiet_skip | (go_big_quiet_want; go_big_quiet_op; first | go_big_quiet_on | (go_big_quiet_call ((first | fail | (go_at_call 49; exact ext_call (sub_any _ _ _ _ (by assumption) (by assumption) (by assumption) (by assumption) (by assumption) (by assumption) (by assumption) (by assumption) _)))))))
      exact wpQuiet_nil rfl
    clear hecr1
    simp only [List.drop_succ_cons, List.drop_zero, Act.put, List.setIfInBounds_toArray, List.set_cons_zero, List.set_cons_succ]
    intro B1 r1 hbr1 hBr1 hDr1 hEr1
    have hGr1_0 := block_cell hEr1 0
    have hGr1_1 := block_cell hEr1 1
    have hFr1 := block_free hEr1
    simp only [List.getElem?_toArray, List.getElem?_cons_zero, List.getElem?_cons_succ] at hGr1_0 hGr1_1
    clear hEr1
    try simp only [World.size_alloc, World.size_setCell, World.size_drew] at hBr1
    obtain ⟨hcr1, hfr1⟩ := bcell hbr1
    have hzr1 := hbr1.size
    try simp only [World.size_alloc, World.size_setCell, World.size_drew] at hzr1
    have hlr1w0 : w.heap.size < r1.heap.size := by omega
    have hlr1w1 : w.heap.size + 1 < r1.heap.size := by omega
    have hlr1w2 : w.heap.size + 1 + 1 < r1.heap.size := by omega
    have hlr1w3 : w.heap.size + 1 + 1 + 1 < r1.heap.size := by omega
    go_wp2_with fail
    rw [rounds_succ]
    go_wp2_with fail
    have hecr2 := @Ext.cell2
    refine wp_region_floatl 11 10 _ _ _ _ _ (.cells #[.int .u16 0, .int .u16 0] 25) (by kernel_rfl) rfl rfl (by kernel_rfl) (by kernel_rfl) rfl rfl rfl rfl (fun _ _ => by simp [go_sem]) (fun _ _ d _ _ h => by cases d <;> exact h) (by kernel_rfl) (by kernel_rfl) rfl ?_
    apply Exists.intro
    refine ⟨fun W' => ?_, ?_⟩
    · simp only [List.take_succ_cons, List.take_zero]
      repeat (first | go_big_quiet_skip | (go_big_quiet_want; go_big_quiet_op; first | go_big_quiet_on | (go_big_quiet_call ((first | fail | (go_at_call 49; exact ext_call (sub_any _ _ _ _ (by assumption) (by assumption) (by assumption) (by assumption) (by assumption) (by assumption) (by assumption) (by assumption) _)))))))
      exact wpQuiet_nil rfl
    clear hecr2
    simp only [List.drop_succ_cons, List.drop_zero, Act.put, List.setIfInBounds_toArray, List.set_cons_zero, List.set_cons_succ]
    intro B2 r2 hbr2 hBr2 hDr2 hEr2
    have hGr2_0 := block_cell hEr2 0
    have hGr2_1 := block_cell hEr2 1
    have hFr2 := block_free hEr2
    simp only [List.getElem?_toArray, List.getElem?_cons_zero, List.getElem?_cons_succ] at hGr2_0 hGr2_1
    clear hEr2
    try simp only [World.size_alloc, World.size_setCell, World.size_drew] at hBr2
    obtain ⟨hcr2, hfr2⟩ := bcell hbr2
    have hzr2 := hbr2.size
    try simp only [World.size_alloc, World.size_setCell, World.size_drew] at hzr2
    have hlr2w0 : w.heap.size < r2.heap.size := by omega
    have hlr2w1 : w.heap.size + 1 < r2.heap.size := by omega
    have hlr2w2 : w.heap.size + 1 + 1 < r2.heap.size := by omega
    have hlr2w3 : w.heap.size + 1 + 1 + 1 < r2.heap.size := by omega
    have hlr2B1 : B1 < r2.heap.size := by omega
    go_wp2_with fail
    rw [rounds_succ]
    go_wp2_with fail
    have hecr3 := @Ext.cell2
    refine wp_region_floatl 11 10 _ _ _ _ _ (.cells #[.int .u16 0, .int .u16 0] 25) (by kernel_rfl) rfl rfl (by kernel_rfl) (by kernel_rfl) rfl rfl rfl rfl (fun _ _ => by simp [go_sem]) (fun _ _ d _ _ h => by cases d <;> exact h) (by kernel_rfl) (by kernel_rfl) rfl ?_
    apply Exists.intro
    refine ⟨fun W' => ?_, ?_⟩
    · simp only [List.take_succ_cons, List.take_zero]
      repeat (first | go_big_quiet_skip | (go_big_quiet_want; go_big_quiet_op; first | go_big_quiet_on | (go_big_quiet_call ((first | fail | (go_at_call 49; exact ext_call (sub_any _ _ _ _ (by assumption) (by assumption) (by assumption) (by assumption) (by assumption) (by assumption) (by assumption) (by assumption) _)))))))
      exact wpQuiet_nil rfl
    clear hecr3
    simp only [List.drop_succ_cons, List.drop_zero, Act.put, List.setIfInBounds_toArray, List.set_cons_zero, List.set_cons_succ]
    intro B3 r3 hbr3 hBr3 hDr3 hEr3
    have hGr3_0 := block_cell hEr3 0
    have hGr3_1 := block_cell hEr3 1
    have hFr3 := block_free hEr3
    simp only [List.getElem?_toArray, List.getElem?_cons_zero, List.getElem?_cons_succ] at hGr3_0 hGr3_1
    clear hEr3
    try simp only [World.size_alloc, World.size_setCell, World.size_drew] at hBr3
    obtain ⟨hcr3, hfr3⟩ := bcell hbr3
    have hzr3 := hbr3.size
    try simp only [World.size_alloc, World.size_setCell, World.size_drew] at hzr3
    have hlr3w0 : w.heap.size < r3.heap.size := by omega
    have hlr3w1 : w.heap.size + 1 < r3.heap.size := by omega
    have hlr3w2 : w.heap.size + 1 + 1 < r3.heap.size := by omega
    have hlr3w3 : w.heap.size + 1 + 1 + 1 < r3.heap.size := by omega
    have hlr3B1 : B1 < r3.heap.size := by omega
    have hlr3B2 : B2 < r3.heap.size := by omega
    go_wp2_with fail
    rw [rounds_succ]
    go_wp2
    refine bodyPost_ret (v := (.tuple #[(.agg #[.int .u16 (hi (sat (val a b - val a' b') 268435455)), .int .u16 (lo (sat (val a b - val a' b') 268435455)), .int .u16 (hi (sat (val c d - val c' d') 268435455)), .int .u16 (lo (sat (val c d - val c' d') 268435455)), .int .u16 (hi (sat (val e f - val e' f') 268435455)), .int .u16 (lo (sat (val e f - val e' f') 268435455))]), .bool ((outb (val a b - val a' b') 268435455) || (outb (val c d - val c' d') 268435455) || (outb (val e f - val e' f') 268435455))])) (by simp [results, Try.results48, go_sem, *]) rfl ⟨by rw [q0, q1], ?_⟩; exact (by repeat' (first | (with_reducible exact Below.refl _ _) | (with_reducible refine bl_set ?_ _ ?_) | (with_reducible refine bl_alloc ?_ _) | (with_reducible refine bl_drew ?_) | (with_reducible refine bl_via (by with_reducible assumption) ?_) | (with_reducible assumption) | omega | (simp only []; omega) | (simp; omega)))

set_option maxHeartbeats 1000000 in
theorem vsub_any (a b c d e f a' b' c' d' e' f' : Int) (ha0 : 0 ≤ a) (ha1 : a < 65536) (hb0 : 0 ≤ b) (hb1 : b < 65536) (hc0 : 0 ≤ c) (hc1 : c < 65536) (hd0 : 0 ≤ d) (hd1 : d < 65536) (he0 : 0 ≤ e) (he1 : e < 65536) (hf0 : 0 ≤ f) (hf1 : f < 65536) (ha'0 : 0 ≤ a') (ha'1 : a' < 65536) (hb'0 : 0 ≤ b') (hb'1 : b' < 65536) (hc'0 : 0 ≤ c') (hc'1 : c' < 65536) (hd'0 : 0 ≤ d') (hd'1 : d' < 65536) (he'0 : 0 ≤ e') (he'1 : e' < 65536) (hf'0 : 0 ≤ f') (hf'1 : f' < 65536) (w : World) :
    Calls Try.prog 32 #[(.agg #[.int .u16 (a), .int .u16 (b), .int .u16 (c), .int .u16 (d), .int .u16 (e), .int .u16 (f)]), (.agg #[.int .u16 (a'), .int .u16 (b'), .int .u16 (c'), .int .u16 (d'), .int .u16 (e'), .int .u16 (f')])] w fun r w' => r = .returned (.tuple #[(.agg #[.int .u16 (hi (sat (val a b - val a' b') 268435455)), .int .u16 (lo (sat (val a b - val a' b') 268435455)), .int .u16 (hi (sat (val c d - val c' d') 268435455)), .int .u16 (lo (sat (val c d - val c' d') 268435455)), .int .u16 (hi (sat (val e f - val e' f') 268435455)), .int .u16 (lo (sat (val e f - val e' f') 268435455))]), .bool ((outb (val a b - val a' b') 268435455) || (outb (val c d - val c' d') 268435455) || (outb (val e f - val e' f') 268435455))]) ∧ Below w.heap.size w w' := by
  go_enter Try.func32, Try.ntmps32
  go_wp2_with fail
  refine (each_sub a b c d e f a' b' c' d' e' f' ha0 ha1 hb0 hb1 hc0 hc1 hd0 hd1 he0 he1 hf0 hf1 ha'0 ha'1 hb'0 hb'1 hc'0 hc'1 hd'0 hd'1 he'0 he'1 hf'0 hf'1 _).mono ?_
  rintro _ r1 ⟨rfl, hbr1⟩
  obtain ⟨hcr1, hfr1⟩ := bcell hbr1
  have hzr1 := hbr1.size
  try simp only [World.size_alloc, World.size_setCell, World.size_drew] at hzr1
  have hlr1w0 : w.heap.size < r1.heap.size := by omega
  have hlr1w1 : w.heap.size + 1 < r1.heap.size := by omega
  have hlr1w2 : w.heap.size + 1 + 1 < r1.heap.size := by omega
  go_wp2
  refine bodyPost_ret (v := (.tuple #[(.agg #[.int .u16 (hi (sat (val a b - val a' b') 268435455)), .int .u16 (lo (sat (val a b - val a' b') 268435455)), .int .u16 (hi (sat (val c d - val c' d') 268435455)), .int .u16 (lo (sat (val c d - val c' d') 268435455)), .int .u16 (hi (sat (val e f - val e' f') 268435455)), .int .u16 (lo (sat (val e f - val e' f') 268435455))]), .bool ((outb (val a b - val a' b') 268435455) || (outb (val c d - val c' d') 268435455) || (outb (val e f - val e' f') 268435455))])) (by simp [results, Try.results32, go_sem, *]) rfl ⟨rfl, ?_⟩; exact (by repeat' (first | (with_reducible exact Below.refl _ _) | (with_reducible refine bl_set ?_ _ ?_) | (with_reducible refine bl_alloc ?_ _) | (with_reducible refine bl_drew ?_) | (with_reducible refine bl_via (by with_reducible assumption) ?_) | (with_reducible assumption) | omega | (simp only []; omega) | (simp; omega)))

set_option maxHeartbeats 1000000 in
theorem vneg_any (a b c d e f : Int) (ha0 : 0 ≤ a) (ha1 : a < 65536) (hb0 : 0 ≤ b) (hb1 : b < 65536) (hc0 : 0 ≤ c) (hc1 : c < 65536) (hd0 : 0 ≤ d) (hd1 : d < 65536) (he0 : 0 ≤ e) (he1 : e < 65536) (hf0 : 0 ≤ f) (hf1 : f < 65536) (w : World) :
    Calls Try.prog 27 #[(.agg #[.int .u16 (a), .int .u16 (b), .int .u16 (c), .int .u16 (d), .int .u16 (e), .int .u16 (f)])] w fun r w' => r = .returned (.agg #[.int .u16 (hi (-val a b)), .int .u16 (lo (-val a b)), .int .u16 (hi (-val c d)), .int .u16 (lo (-val c d)), .int .u16 (hi (-val e f)), .int .u16 (lo (-val e f))]) ∧ Below w.heap.size w w' := by
  have z0 : val 0 0 = 0 := by decide +kernel
  have s0 : sat (-val a b) 268435455 = -val a b := sat_in _ _ (by have := val_hi a b; omega) (by have := val_lo a b; omega)
  have o0 : 0 - val a b = -val a b := by omega
  have s1 : sat (-val c d) 268435455 = -val c d := sat_in _ _ (by have := val_hi c d; omega) (by have := val_lo c d; omega)
  have o1 : 0 - val c d = -val c d := by omega
  have s2 : sat (-val e f) 268435455 = -val e f := sat_in _ _ (by have := val_hi e f; omega) (by have := val_lo e f; omega)
  have o2 : 0 - val e f = -val e f := by omega
  go_enter Try.func27, Try.ntmps27
  go_wp2_with fail
  refine (each_sub 0 0 0 0 0 0 a b c d e f (by omega) (by omega) (by omega) (by omega) (by omega) (by omega) (by omega) (by omega) (by omega) (by omega) (by omega) (by omega) ha0 ha1 hb0 hb1 hc0 hc1 hd0 hd1 he0 he1 hf0 hf1 _).mono ?_
  rintro _ r1 ⟨rfl, hbr1⟩
  obtain ⟨hcr1, hfr1⟩ := bcell hbr1
  have hzr1 := hbr1.size
  try simp only [World.size_alloc, World.size_setCell, World.size_drew] at hzr1
  have hlr1w0 : w.heap.size < r1.heap.size := by omega
  have hlr1w1 : w.heap.size + 1 < r1.heap.size := by omega
  go_wp2
  refine bodyPost_ret (v := (.agg #[.int .u16 (hi (-val a b)), .int .u16 (lo (-val a b)), .int .u16 (hi (-val c d)), .int .u16 (lo (-val c d)), .int .u16 (hi (-val e f)), .int .u16 (lo (-val e f))])) (by simp [results, Try.results27, go_sem, *]) rfl ⟨rfl, ?_⟩; exact (by repeat' (first | (with_reducible exact Below.refl _ _) | (with_reducible refine bl_set ?_ _ ?_) | (with_reducible refine bl_alloc ?_ _) | (with_reducible refine bl_drew ?_) | (with_reducible refine bl_via (by with_reducible assumption) ?_) | (with_reducible assumption) | omega | (simp only []; omega) | (simp; omega)))

end Go.Proofs.Ytpmocegfiniafaa
