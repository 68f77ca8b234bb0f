/- 'of' of chapter 17 and the examples that every law of this chapter checks first: 'lives' returns true. No conditions. -/
import Derived.Test.YtkgpdpengfdhbaaWa
import Derived.Test.YtkgpdpengfdhbaaVd
import Derived.Test.YtkgpdpengfdhbaaVue
namespace Go.Proofs.Ytkgpdpengfdhbaa
set_option linter.unusedSimpArgs false
set_option linter.unusedVariables false
open Go.RowKit

set_option maxHeartbeats 400000 in
theorem of_any (x y z : Int) (x0 : -268435455 ≤ x) (x1 : x ≤ 268435455) (y0 : -268435455 ≤ y) (y1 : y ≤ 268435455) (z0 : -268435455 ≤ z) (z1 : z ≤ 268435455) (w : World) :
    Calls Try.prog 24 #[.int .i64 x, .int .i64 y, .int .i64 z] w fun r w' => r = .returned (.agg #[.int .u16 (hi (x)), .int .u16 (lo (x)), .int .u16 (hi (y)), .int .u16 (lo (y)), .int .u16 (hi (z)), .int .u16 (lo (z))]) ∧ Below w.heap.size w w' := by
  go_enter Try.func24, Try.ntmps24
  go_wp2_with fail
  refine (rdouble_any x x0 x1 _).mono ?_
  rintro _ r1 ⟨rfl, hbr1⟩
  obtain ⟨hcr1, hfr1⟩ := bcell hbr1
  have hzr1 := hbr1.size
  try simp only [World.size_alloc, World.size_setCell, World.size_drew] at hzr1
  have hlr1w0 : w.heap.size < r1.heap.size := by omega
  go_wp2_with fail
  refine (rdouble_any y y0 y1 _).mono ?_
  rintro _ r2 ⟨rfl, hbr2⟩
  obtain ⟨hcr2, hfr2⟩ := bcell hbr2
  have hzr2 := hbr2.size
  try simp only [World.size_alloc, World.size_setCell, World.size_drew] at hzr2
  have hlr2w0 : w.heap.size < r2.heap.size := by omega
  go_wp2_with fail
  refine (rdouble_any z z0 z1 _).mono ?_
  rintro _ r3 ⟨rfl, hbr3⟩
  obtain ⟨hcr3, hfr3⟩ := bcell hbr3
  have hzr3 := hbr3.size
  try simp only [World.size_alloc, World.size_setCell, World.size_drew] at hzr3
  have hlr3w0 : w.heap.size < r3.heap.size := by omega
  go_wp2
  refine bodyPost_ret (v := (.agg #[.int .u16 (hi (x)), .int .u16 (lo (x)), .int .u16 (hi (y)), .int .u16 (lo (y)), .int .u16 (hi (z)), .int .u16 (lo (z))])) (by simp [results, Try.results24, go_sem, *]) rfl ⟨rfl, ?_⟩; exact (by repeat' (first | (with_reducible exact Below.refl _ _) | (with_reducible refine bl_set ?_ _ ?_) | (with_reducible refine bl_alloc ?_ _) | (with_reducible refine bl_drew ?_) | (with_reducible refine bl_via (by with_reducible assumption) ?_) | (with_reducible assumption) | omega | (simp only []; omega) | (simp; omega)))

theorem nsq_lives : nsq (dot (val 6144 0) (val 0 0) (val 8192 0) (val 6144 0) (val 0 0) (val 8192 0)) = 167772160 := by
  have h : dot (val 6144 0) (val 0 0) (val 8192 0) (val 6144 0) (val 0 0) (val 8192 0) = 167772160 * 167772160 := by decide +kernel
  rw [h]
  have e : isq (167772160 * 167772160) = 167772160 := isq_unique _ _ (by omega) (by omega) (by omega)
  unfold nsq
  rw [e, if_neg (by omega)]
theorem unit_lives : unitV (val 6144 0) (val 0 0) (val 8192 0) = (.tuple #[(.agg #[.int .u16 (4915), .int .u16 (3277), .int .u16 (0), .int .u16 (0), .int .u16 (6553), .int .u16 (9830)]), .bool false]) := by
  have e1 : ucnt (val 6144 0) (val 0 0) (val 8192 0) = 0 := by decide +kernel
  have e2 : usq (val 6144 0) (val 0 0) (val 8192 0) = 167772160 * 167772160 := by decide +kernel
  have e : isq (167772160 * 167772160) = 167772160 := isq_unique _ _ (by omega) (by omega) (by omega)
  unfold unitV uni
  rw [if_neg (by decide +kernel), e1, e2, e]
  have f0 : hi (sat (rnd (val 6144 0 * pw 0 * 134217728) 167772160) 268435455) = 4915 := by decide +kernel
  have f1 : lo (sat (rnd (val 6144 0 * pw 0 * 134217728) 167772160) 268435455) = 3277 := by decide +kernel
  have f2 : hi (sat (rnd (val 0 0 * pw 0 * 134217728) 167772160) 268435455) = 0 := by decide +kernel
  have f3 : lo (sat (rnd (val 0 0 * pw 0 * 134217728) 167772160) 268435455) = 0 := by decide +kernel
  have f4 : hi (sat (rnd (val 8192 0 * pw 0 * 134217728) 167772160) 268435455) = 6553 := by decide +kernel
  have f5 : lo (sat (rnd (val 8192 0 * pw 0 * 134217728) 167772160) 268435455) = 9830 := by decide +kernel
  rw [f0, f1, f2, f3, f4, f5]

set_option maxRecDepth 100000 in
set_option maxHeartbeats 4000000 in
theorem lives_any (w : World) :
    Calls Try.prog 11 #[] w fun e w' => e = .returned (.bool true) ∧ Below w.heap.size w w' := by
  have heq := @eq_dbl
  have hev := @eq_vec
  have hn := nsq_lives
  have hu := unit_lives
  have a0 : hi 134217728 = 8192 := by decide +kernel
  have a1 : lo 134217728 = 0 := by decide +kernel
  have a2 : hi 0 = 0 := by decide +kernel
  have a3 : lo 0 = 0 := by decide +kernel
  have a4 : hi (-67108864) = 28671 := by decide +kernel
  have a5 : lo (-67108864) = 32767 := by decide +kernel
  have a6 : hi 100663296 = 6144 := by decide +kernel
  have a7 : lo 100663296 = 0 := by decide +kernel
  have a8 : hi 67108864 = 4096 := by decide +kernel
  have a9 : lo 67108864 = 0 := by decide +kernel
  have a10 : hi 80530637 = 4915 := by decide +kernel
  have a11 : lo 80530637 = 3277 := by decide +kernel
  have a12 : hi 107374182 = 6553 := by decide +kernel
  have a13 : lo 107374182 = 9830 := by decide +kernel
  have a14 : hi 33554432 = 2048 := by decide +kernel
  have a15 : lo 33554432 = 0 := by decide +kernel
  have a16 : hi 167772160 = 10240 := by decide +kernel
  have a17 : lo 167772160 = 0 := by decide +kernel
  have a18 : hi (sat (rnd (val 0 0 * val 0 0 - val 0 0 * val 8192 0) 268435456) 268435455) = 0 := by decide +kernel
  have a19 : lo (sat (rnd (val 0 0 * val 0 0 - val 0 0 * val 8192 0) 268435456) 268435455) = 0 := by decide +kernel
  have a20 : outb (rnd (val 0 0 * val 0 0 - val 0 0 * val 8192 0) 268435456) 268435455 = false := by decide +kernel
  have a21 : hi (sat (rnd (val 0 0 * val 0 0 - val 8192 0 * val 0 0) 268435456) 268435455) = 0 := by decide +kernel
  have a22 : lo (sat (rnd (val 0 0 * val 0 0 - val 8192 0 * val 0 0) 268435456) 268435455) = 0 := by decide +kernel
  have a23 : outb (rnd (val 0 0 * val 0 0 - val 8192 0 * val 0 0) 268435456) 268435455 = false := by decide +kernel
  have a24 : hi (sat (rnd (val 8192 0 * val 8192 0 - val 0 0 * val 0 0) 268435456) 268435455) = 4096 := by decide +kernel
  have a25 : lo (sat (rnd (val 8192 0 * val 8192 0 - val 0 0 * val 0 0) 268435456) 268435455) = 0 := by decide +kernel
  have a26 : outb (rnd (val 8192 0 * val 8192 0 - val 0 0 * val 0 0) 268435456) 268435455 = false := by decide +kernel
  have a27 : hi (sat (rnd (dot (val 8192 0) (val 8192 0) (val 0 0) (val 8192 0) (val 28671 32767) (val 8192 0)) 268435456) 268435455) = 2048 := by decide +kernel
  have a28 : lo (sat (rnd (dot (val 8192 0) (val 8192 0) (val 0 0) (val 8192 0) (val 28671 32767) (val 8192 0)) 268435456) 268435455) = 0 := by decide +kernel
  have a29 : outb (rnd (dot (val 8192 0) (val 8192 0) (val 0 0) (val 8192 0) (val 28671 32767) (val 8192 0)) 268435456) 268435455 = false := by decide +kernel
  have s0 : sat 167772160 268435455 = 167772160 := by decide +kernel
  have s1 : outb 167772160 268435455 = false := by decide +kernel
  go_enter Try.func11, Try.ntmps11
  go_wp2_with fail
  refine (of_any 134217728 0 0 (by omega) (by omega) (by omega) (by omega) (by omega) (by omega)  _).mono ?_
  rintro _ r1 ⟨rfl, hbr1⟩
  obtain ⟨hcr1, hfr1⟩ := bcell hbr1
  have hzr1 := hbr1.size
  try simp only [World.size_alloc, World.size_setCell, World.size_drew] at hzr1
  go_wp2_with fail
  refine (of_any 0 134217728 0 (by omega) (by omega) (by omega) (by omega) (by omega) (by omega)  _).mono ?_
  rintro _ r2 ⟨rfl, hbr2⟩
  obtain ⟨hcr2, hfr2⟩ := bcell hbr2
  have hzr2 := hbr2.size
  try simp only [World.size_alloc, World.size_setCell, World.size_drew] at hzr2
  go_wp2_with fail
  refine (cross_any 8192 0 0 0 0 0 0 0 8192 0 0 0 (by omega) (by omega) (by omega) (by omega) (by omega) (by omega) (by omega) (by omega) (by omega) (by omega) (by omega) (by omega) (by omega) (by omega) (by omega) (by omega) (by omega) (by omega) (by omega) (by omega) (by omega) (by omega) (by omega) (by omega) _).mono ?_
  rintro _ r3 ⟨rfl, hbr3⟩
  obtain ⟨hcr3, hfr3⟩ := bcell hbr3
  have hzr3 := hbr3.size
  try simp only [World.size_alloc, World.size_setCell, World.size_drew] at hzr3
  go_wp2_with fail
  refine (of_any 134217728 134217728 0 (by omega) (by omega) (by omega) (by omega) (by omega) (by omega)  _).mono ?_
  rintro _ r4 ⟨rfl, hbr4⟩
  obtain ⟨hcr4, hfr4⟩ := bcell hbr4
  have hzr4 := hbr4.size
  try simp only [World.size_alloc, World.size_setCell, World.size_drew] at hzr4
  have hlr4r30 : r3.heap.size < r4.heap.size := by omega
  go_wp2_with fail
  refine (of_any 134217728 (-67108864) 134217728 (by omega) (by omega) (by omega) (by omega) (by omega) (by omega)  _).mono ?_
  rintro _ r5 ⟨rfl, hbr5⟩
  obtain ⟨hcr5, hfr5⟩ := bcell hbr5
  have hzr5 := hbr5.size
  try simp only [World.size_alloc, World.size_setCell, World.size_drew] at hzr5
  have hlr5r30 : r3.heap.size < r5.heap.size := by omega
  go_wp2_with fail
  refine (dot_any 8192 0 8192 0 0 0 8192 0 28671 32767 8192 0 (by omega) (by omega) (by omega) (by omega) (by omega) (by omega) (by omega) (by omega) (by omega) (by omega) (by omega) (by omega) (by omega) (by omega) (by omega) (by omega) (by omega) (by omega) (by omega) (by omega) (by omega) (by omega) (by omega) (by omega) _).mono ?_
  rintro _ r6 ⟨rfl, hbr6⟩
  obtain ⟨hcr6, hfr6⟩ := bcell hbr6
  have hzr6 := hbr6.size
  try simp only [World.size_alloc, World.size_setCell, World.size_drew] at hzr6
  have hlr6r30 : r3.heap.size < r6.heap.size := by omega
  go_wp2_with fail
  refine (of_any 100663296 0 134217728 (by omega) (by omega) (by omega) (by omega) (by omega) (by omega)  _).mono ?_
  rintro _ r7 ⟨rfl, hbr7⟩
  obtain ⟨hcr7, hfr7⟩ := bcell hbr7
  have hzr7 := hbr7.size
  try simp only [World.size_alloc, World.size_setCell, World.size_drew] at hzr7
  have hlr7r30 : r3.heap.size < r7.heap.size := by omega
  have hlr7r60 : r6.heap.size < r7.heap.size := by omega
  go_wp2_with fail
  refine (unit_any 6144 0 0 0 8192 0 (by omega) (by omega) (by omega) (by omega) (by omega) (by omega) (by omega) (by omega) (by omega) (by omega) (by omega) (by omega) _).mono ?_
  rintro _ r8 ⟨rfl, hbr8⟩
  obtain ⟨hcr8, hfr8⟩ := bcell hbr8
  have hzr8 := hbr8.size
  try simp only [World.size_alloc, World.size_setCell, World.size_drew] at hzr8
  have hlr8r30 : r3.heap.size < r8.heap.size := by omega
  have hlr8r60 : r6.heap.size < r8.heap.size := by omega
  go_wp2_with fail
  refine (of_any 100663296 0 134217728 (by omega) (by omega) (by omega) (by omega) (by omega) (by omega)  _).mono ?_
  rintro _ r9 ⟨rfl, hbr9⟩
  obtain ⟨hcr9, hfr9⟩ := bcell hbr9
  have hzr9 := hbr9.size
  try simp only [World.size_alloc, World.size_setCell, World.size_drew] at hzr9
  have hlr9r30 : r3.heap.size < r9.heap.size := by omega
  have hlr9r60 : r6.heap.size < r9.heap.size := by omega
  have hlr9r80 : r8.heap.size < r9.heap.size := by omega
  go_wp2_with fail
  refine (length_any 6144 0 0 0 8192 0 (by omega) (by omega) (by omega) (by omega) (by omega) (by omega) (by omega) (by omega) (by omega) (by omega) (by omega) (by omega) _).mono ?_
  rintro _ r10 ⟨rfl, hbr10⟩
  obtain ⟨hcr10, hfr10⟩ := bcell hbr10
  have hzr10 := hbr10.size
  try simp only [World.size_alloc, World.size_setCell, World.size_drew] at hzr10
  have hlr10r30 : r3.heap.size < r10.heap.size := by omega
  have hlr10r60 : r6.heap.size < r10.heap.size := by omega
  have hlr10r80 : r8.heap.size < r10.heap.size := by omega
  go_wp2_with fail
  have hecr11 := @Ext.cell
  refine wp_region_ext (by kernel_rfl) (by kernel_rfl) ?_
  repeat (first | go_big_quiet_skip | (go_big_quiet_want; go_big_quiet_op; first | go_big_quiet_on | (go_big_quiet_call ((first | fail | (go_at_call 24; exact ext_call (of_any _ _ _ (by omega) (by omega) (by omega) (by omega) (by omega) (by omega) _)) | (go_at_call 27; exact ext_call (rdouble_any _ (by omega) (by omega) _)))))))
  clear hecr11
  refine wpQuiet_nil ?_
  rintro r11 ⟨⟨_, hbr11⟩, rfl⟩
  obtain ⟨hcr11, hfr11⟩ := bcell hbr11
  have hzr11 := hbr11.size
  try simp only [World.size_alloc, World.size_setCell, World.size_drew] at hzr11
  have hlr11r30 : r3.heap.size < r11.heap.size := by omega
  have hlr11r60 : r6.heap.size < r11.heap.size := by omega
  have hlr11r80 : r8.heap.size < r11.heap.size := by omega
  have hlr11r100 : r10.heap.size < r11.heap.size := by omega
  go_wp2
  go_ret
  exact ⟨rfl, (by repeat' (first | (with_reducible exact Below.refl _ _) | (with_reducible refine bl_set ?_ _ ?_) | (with_reducible refine bl_alloc ?_ _) | (with_reducible refine bl_drew ?_) | (with_reducible refine bl_via (by with_reducible assumption) ?_) | (with_reducible assumption) | omega | (simp only []; omega) | (simp; omega)))⟩
end Go.Proofs.Ytkgpdpengfdhbaa
