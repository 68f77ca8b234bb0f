/- Contracts of package vector over this translation: values, rounded, Dot, Cross. -/
import Derived.Test.YtbbhppjamighdaaDoorDa
import Derived.Test.YtbbhppjamighdaaDoorKd
import Derived.Test.YtbbhppjamighdaaDoorPc
namespace Go.Proofs.YtbbhppjamighdaaDoor
set_option linter.unusedSimpArgs false
set_option linter.unusedVariables false
open Go.RowKit

set_option maxHeartbeats 400000 in
theorem vquot_pos (p q : Int) (h0 : 0 ≤ p) (h1 : p ≤ 4611686018427387904) (g0 : 1 ≤ q) (g1 : q ≤ 4611686018427387904) (w : World) :
    Calls Tryd.prog 71 #[.int .i64 p, .int .i64 q] w fun e w' => e = .returned (.int .i64 (rnd p q)) ∧ Below w.heap.size w w' := by
  have k0 : 0 ≤ p % q := Int.emod_nonneg p (by omega)
  have k1 : p % q < q := Int.emod_lt_of_pos p (by omega)
  have k2 : 0 ≤ p / q := Int.ediv_nonneg h0 (by omega)
  have k3 : p / q ≤ p := by have := Int.ediv_le_self q h0; omega
  by_cases c : q - p % q ≤ p % q
  · have e : rnd p q = p / q + 1 := by unfold rnd rndN; rw [if_neg (by omega), if_pos c]
    rw [e]; clear e
    go_enter Tryd.func71, Tryd.ntmps71
    go_wp2_with fail
    have hecr1 := @Ext.cell
    refine wp_region_ext (by kernel_rfl) (by kernel_rfl) ?_
    repeat (first | go_big_quiet_skip | (go_big_quiet_want; go_big_quiet_op; first | go_big_quiet_on | (go_big_quiet_call ((first | fail | fail)))))
    clear hecr1
    refine wpQuiet_nil ?_
    rintro r1 ⟨⟨_, hbr1⟩, rfl⟩
    obtain ⟨hcr1, hfr1⟩ := bcell hbr1
    have hzr1 := hbr1.size
    try simp only [World.size_alloc, World.size_setCell, World.size_drew] at hzr1
    go_wp2
    go_ret
    exact ⟨rfl, (by repeat' (first | (with_reducible exact Below.refl _ _) | (with_reducible refine bl_set ?_ _ ?_) | (with_reducible refine bl_alloc ?_ _) | (with_reducible refine bl_drew ?_) | (with_reducible refine bl_via (by with_reducible assumption) ?_) | (with_reducible assumption) | omega | (simp only []; omega) | (simp; omega)))⟩
  · have e : rnd p q = p / q := by unfold rnd rndN; rw [if_neg (by omega), if_neg c]
    rw [e]; clear e
    go_enter Tryd.func71, Tryd.ntmps71
    go_wp2_with fail
    have hecr1 := @Ext.cell
    refine wp_region_ext (by kernel_rfl) (by kernel_rfl) ?_
    repeat (first | go_big_quiet_skip | (go_big_quiet_want; go_big_quiet_op; first | go_big_quiet_on | (go_big_quiet_call ((first | fail | fail)))))
    clear hecr1
    refine wpQuiet_nil ?_
    rintro r1 ⟨⟨_, hbr1⟩, rfl⟩
    obtain ⟨hcr1, hfr1⟩ := bcell hbr1
    have hzr1 := hbr1.size
    try simp only [World.size_alloc, World.size_setCell, World.size_drew] at hzr1
    go_wp2
    go_ret
    exact ⟨rfl, (by repeat' (first | (with_reducible exact Below.refl _ _) | (with_reducible refine bl_set ?_ _ ?_) | (with_reducible refine bl_alloc ?_ _) | (with_reducible refine bl_drew ?_) | (with_reducible refine bl_via (by with_reducible assumption) ?_) | (with_reducible assumption) | omega | (simp only []; omega) | (simp; omega)))⟩

set_option maxHeartbeats 400000 in
theorem vquot_neg (p q : Int) (h0 : -4611686018427387904 ≤ p) (h1 : p < 0) (g0 : 1 ≤ q) (g1 : q ≤ 4611686018427387904) (w : World) :
    Calls Tryd.prog 71 #[.int .i64 p, .int .i64 q] w fun e w' => e = .returned (.int .i64 (rnd p q)) ∧ Below w.heap.size w w' := by
  have e1 : rnd p q = -rnd (-p) q := by have := rnd_neg p q (by omega); omega
  have b := rnd_size (-p) q 4611686018427387904 g0 (by omega) (by omega) (by omega)
  obtain ⟨b0, b1⟩ := b
  rw [e1]; clear e1
  go_enter Tryd.func71, Tryd.ntmps71
  go_wp2_with fail
  refine (vquot_pos (-p) q (by omega) (by omega) g0 g1 _).mono ?_
  rintro _ r1 ⟨rfl, hbr1⟩
  obtain ⟨hcr1, hfr1⟩ := bcell hbr1
  have hzr1 := hbr1.size
  try simp only [World.size_alloc, World.size_setCell, World.size_drew] at hzr1
  go_wp2
  go_ret
  exact ⟨rfl, (by repeat' (first | (with_reducible exact Below.refl _ _) | (with_reducible refine bl_set ?_ _ ?_) | (with_reducible refine bl_alloc ?_ _) | (with_reducible refine bl_drew ?_) | (with_reducible refine bl_via (by with_reducible assumption) ?_) | (with_reducible assumption) | omega | (simp only []; omega) | (simp; omega)))⟩

theorem vquot_any (p q : Int) (h0 : -4611686018427387904 ≤ p) (h1 : p ≤ 4611686018427387904) (g0 : 1 ≤ q) (g1 : q ≤ 4611686018427387904) (w : World) :
    Calls Tryd.prog 71 #[.int .i64 p, .int .i64 q] w fun e w' => e = .returned (.int .i64 (rnd p q)) ∧ Below w.heap.size w w' := by
  by_cases h : p < 0
  · exact vquot_neg p q h0 h g0 g1 w
  · exact vquot_pos p q (by omega) h1 g0 g1 w

set_option maxHeartbeats 400000 in
theorem values_any (a b c d e f : Int) (ha0 : 0 ≤ a) (ha1 : a < 65536) (hb0 : 0 ≤ b) (hb1 : b < 65536) (hc0 : 0 ≤ c) (hc1 : c < 65536) (hd0 : 0 ≤ d) (hd1 : d < 65536) (he0 : 0 ≤ e) (he1 : e < 65536) (hf0 : 0 ≤ f) (hf1 : f < 65536) (w : World) :
    Calls Tryd.prog 68 #[(.agg #[.int .u16 (a), .int .u16 (b), .int .u16 (c), .int .u16 (d), .int .u16 (e), .int .u16 (f)])] w fun r w' => r = .returned (.agg #[.int .i64 (val a b), .int .i64 (val c d), .int .i64 (val e f)]) ∧ Below w.heap.size w w' := by
  go_enter Tryd.func68, Tryd.ntmps68
  go_wp2_with fail
  have hecr1 := @Ext.cell
  refine wp_region_ext_tail 10 (by kernel_rfl) (by kernel_rfl) ?_
  simp only [List.take_succ_cons, List.take_zero, List.drop_succ_cons, List.drop_zero]
  repeat (first | go_big_quiet_skip | (go_big_quiet_want; go_big_quiet_op; first | go_big_quiet_on | (go_big_quiet_call ((first | fail | (go_at_call 37; exact ext_call (value_any _ _ (by assumption) (by assumption) (by assumption) (by assumption) _)))))))
  clear hecr1
  refine wpQuiet_nil ?_
  rintro r1 ⟨⟨_, hbr1⟩, rfl⟩
  obtain ⟨hcr1, hfr1⟩ := bcell hbr1
  have hzr1 := hbr1.size
  try simp only [World.size_alloc, World.size_setCell, World.size_drew] at hzr1
  have hlr1w0 : w.heap.size < r1.heap.size := by omega
  have hlr1w1 : w.heap.size + 1 < r1.heap.size := by omega
  go_wp2
  refine bodyPost_ret (v := (.agg #[.int .i64 (val a b), .int .i64 (val c d), .int .i64 (val e f)])) (by simp [results, Tryd.results68, go_sem, *]) rfl ⟨rfl, ?_⟩; exact (by repeat' (first | (with_reducible exact Below.refl _ _) | (with_reducible refine bl_set ?_ _ ?_) | (with_reducible refine bl_alloc ?_ _) | (with_reducible refine bl_drew ?_) | (with_reducible refine bl_via (by with_reducible assumption) ?_) | (with_reducible assumption) | omega | (simp only []; omega) | (simp; omega)))

set_option maxHeartbeats 400000 in
theorem rounded_any (s : Int) (h0 : -4611686018427387904 ≤ s) (h1 : s ≤ 4611686018427387904) (w : World) :
    Calls Tryd.prog 72 #[.int .i64 s] w fun r w' => r = .returned (.tuple #[(.agg #[.int .u16 (hi (sat (rnd s 268435456) 268435455)), .int .u16 (lo (sat (rnd s 268435456) 268435455))]), .bool (outb (rnd s 268435456) 268435455)]) ∧ Below w.heap.size w w' := by
  go_enter Tryd.func72, Tryd.ntmps72
  go_wp2_with fail
  refine (vquot_any s 268435456 h0 h1 (by omega) (by omega) _).mono ?_
  rintro _ r1 ⟨rfl, hbr1⟩
  obtain ⟨hcr1, hfr1⟩ := bcell hbr1
  have hzr1 := hbr1.size
  try simp only [World.size_alloc, World.size_setCell, World.size_drew] at hzr1
  have hlr1w0 : w.heap.size < r1.heap.size := by omega
  go_wp2_with fail
  refine (clamp_any _ _).mono ?_
  rintro _ r2 ⟨rfl, hbr2⟩
  obtain ⟨hcr2, hfr2⟩ := bcell hbr2
  have hzr2 := hbr2.size
  try simp only [World.size_alloc, World.size_setCell, World.size_drew] at hzr2
  have hlr2w0 : w.heap.size < r2.heap.size := by omega
  go_wp2
  refine bodyPost_ret (v := .tuple #[(.agg #[.int .u16 (hi (sat (rnd s 268435456) 268435455)), .int .u16 (lo (sat (rnd s 268435456) 268435455))]), .bool (outb (rnd s 268435456) 268435455)]) (by simp [results, Tryd.results72, go_sem, *]) rfl ⟨rfl, ?_⟩; exact (by repeat' (first | (with_reducible exact Below.refl _ _) | (with_reducible refine bl_set ?_ _ ?_) | (with_reducible refine bl_alloc ?_ _) | (with_reducible refine bl_drew ?_) | (with_reducible refine bl_via (by with_reducible assumption) ?_) | (with_reducible assumption) | omega | (simp only []; omega) | (simp; omega)))

set_option maxHeartbeats 1000000 in
theorem dot_any (a b c d e f a' b' c' d' e' f' : Int) (ha0 : 0 ≤ a) (ha1 : a < 65536) (hb0 : 0 ≤ b) (hb1 : b < 65536) (hc0 : 0 ≤ c) (hc1 : c < 65536) (hd0 : 0 ≤ d) (hd1 : d < 65536) (he0 : 0 ≤ e) (he1 : e < 65536) (hf0 : 0 ≤ f) (hf1 : f < 65536) (ha'0 : 0 ≤ a') (ha'1 : a' < 65536) (hb'0 : 0 ≤ b') (hb'1 : b' < 65536) (hc'0 : 0 ≤ c') (hc'1 : c' < 65536) (hd'0 : 0 ≤ d') (hd'1 : d' < 65536) (he'0 : 0 ≤ e') (he'1 : e' < 65536) (hf'0 : 0 ≤ f') (hf'1 : f' < 65536) (w : World) :
    Calls Tryd.prog 82 #[(.agg #[.int .u16 (a), .int .u16 (b), .int .u16 (c), .int .u16 (d), .int .u16 (e), .int .u16 (f)]), (.agg #[.int .u16 (a'), .int .u16 (b'), .int .u16 (c'), .int .u16 (d'), .int .u16 (e'), .int .u16 (f')])] w fun r w' =>
      r = .returned (.tuple #[(.agg #[.int .u16 (hi (sat (rnd (dot (val a b) (val c d) (val e f) (val a' b') (val c' d') (val e' f')) 268435456) 268435455)), .int .u16 (lo (sat (rnd (dot (val a b) (val c d) (val e f) (val a' b') (val c' d') (val e' f')) 268435456) 268435455))]), .bool (outb (rnd (dot (val a b) (val c d) (val e f) (val a' b') (val c' d') (val e' f')) 268435456) 268435455)]) ∧ Below w.heap.size w w' := by
  obtain ⟨⟨p0, p1⟩, ⟨p2, p3⟩, ⟨p4, p5⟩⟩ := dot_size (val a b) (val c d) (val e f) (val a' b') (val c' d') (val e' f') (val_lo _ _) (val_hi _ _) (val_lo _ _) (val_hi _ _) (val_lo _ _) (val_hi _ _) (val_lo _ _) (val_hi _ _) (val_lo _ _) (val_hi _ _) (val_lo _ _) (val_hi _ _)
  have ed : val a b * val a' b' + val c d * val c' d' + val e f * val e' f' = dot (val a b) (val c d) (val e f) (val a' b') (val c' d') (val e' f') := rfl
  have d0 : -4611686018427387904 ≤ dot (val a b) (val c d) (val e f) (val a' b') (val c' d') (val e' f') := by unfold dot; omega
  have d1 : dot (val a b) (val c d) (val e f) (val a' b') (val c' d') (val e' f') ≤ 4611686018427387904 := by unfold dot; omega
  have HD := keep ed
  clear ed
  go_enter Tryd.func82, Tryd.ntmps82
  go_wp2_with fail
  have hecr1 := @Ext.cell2
  refine wp_region_float2 4 _ _ _ _ _ (.cells #[.int .i64 0, .int .i64 0, .int .i64 0] 53) (.cells #[.int .i64 0, .int .i64 0, .int .i64 0] 53) (by kernel_rfl) (by kernel_rfl) rfl rfl rfl rfl rfl rfl rfl rfl (fun _ _ => by simp [go_sem]) (fun _ _ => by simp [go_sem]) (by kernel_rfl) (by kernel_rfl) (by kernel_rfl) rfl ?_
  apply Exists.intro
  refine ⟨fun W' => ?_, ?_⟩
  · simp only [List.take_succ_cons, List.take_zero]
    repeat (first | go_big_quiet_skip | (go_big_quiet_want; go_big_quiet_op; first | go_big_quiet_on | (go_big_quiet_call ((first | fail | (go_at_call 68; exact ext_call (values_any _ _ _ _ _ _ (by assumption) (by assumption) (by assumption) (by assumption) (by assumption) (by assumption) (by assumption) (by assumption) (by assumption) (by assumption) (by assumption) (by assumption) _)))))))
    exact wpQuiet_nil rfl
  clear hecr1
  simp only [List.drop_succ_cons, List.drop_zero, Act.put, List.setIfInBounds_toArray, List.set_cons_zero, List.set_cons_succ]
  rintro B1 C1 r1 hbr1 ⟨hBr1, hDr1, hEr1⟩ ⟨hBcr1, hDcr1, hEcr1⟩ hner1
  have hnfr1 := Ne.symm hner1
  have hGr1_0 := block_cell hEr1 0
  have hGr1_1 := block_cell hEr1 1
  have hGr1_2 := block_cell hEr1 2
  have hFr1 := block_free hEr1
  have hGcr1_0 := block_cell hEcr1 0
  have hGcr1_1 := block_cell hEcr1 1
  have hGcr1_2 := block_cell hEcr1 2
  have hFcr1 := block_free hEcr1
  simp only [List.getElem?_toArray, List.getElem?_cons_zero, List.getElem?_cons_succ] at hGr1_0 hGr1_1 hGr1_2 hGcr1_0 hGcr1_1 hGcr1_2
  clear hEr1 hEcr1
  try simp only [World.size_alloc, World.size_setCell, World.size_drew] at hBr1
  try simp only [World.size_alloc, World.size_setCell, World.size_drew] at hBcr1
  obtain ⟨hcr1, hfr1⟩ := bcell hbr1
  have hzr1 := hbr1.size
  try simp only [World.size_alloc, World.size_setCell, World.size_drew] at hzr1
  have hlr1w0 : w.heap.size < r1.heap.size := by omega
  have hlr1w1 : w.heap.size + 1 < r1.heap.size := by omega
  have hlr1w2 : w.heap.size + 1 + 1 < r1.heap.size := by omega
  go_wp2_with fail
  refine (rounded_any (val a b * val a' b' + val c d * val c' d' + val e f * val e' f') (by omega) (by omega) _).mono ?_
  rintro _ r2 ⟨rfl, hbr2⟩
  obtain ⟨hcr2, hfr2⟩ := bcell hbr2
  have hzr2 := hbr2.size
  try simp only [World.size_alloc, World.size_setCell, World.size_drew] at hzr2
  have hlr2w0 : w.heap.size < r2.heap.size := by omega
  have hlr2w1 : w.heap.size + 1 < r2.heap.size := by omega
  have hlr2w2 : w.heap.size + 1 + 1 < r2.heap.size := by omega
  have hlr2B1 : B1 < r2.heap.size := by omega
  have hlr2C1 : C1 < r2.heap.size := by omega
  go_wp2
  refine bodyPost_ret (v := .tuple #[(.agg #[.int .u16 (hi (sat (rnd (val a b * val a' b' + val c d * val c' d' + val e f * val e' f') 268435456) 268435455)), .int .u16 (lo (sat (rnd (val a b * val a' b' + val c d * val c' d' + val e f * val e' f') 268435456) 268435455))]), .bool (outb (rnd (val a b * val a' b' + val c d * val c' d' + val e f * val e' f') 268435456) 268435455)]) (by simp [results, Tryd.results82, go_sem, *]) rfl ⟨by rw [← HD.out], ?_⟩; exact (by repeat' (first | (with_reducible exact Below.refl _ _) | (with_reducible refine bl_set ?_ _ ?_) | (with_reducible refine bl_alloc ?_ _) | (with_reducible refine bl_drew ?_) | (with_reducible refine bl_via (by with_reducible assumption) ?_) | (with_reducible assumption) | omega | (simp only []; omega) | (simp; omega)))
end Go.Proofs.YtbbhppjamighdaaDoor
