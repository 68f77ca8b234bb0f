/- The walk of the law VectorKnown: it returns true. -/
import Derived.Test.YtkgpdpengfdhbaaWb
import Derived.Test.YtkgpdpengfdhbaaVb
import Derived.Test.YtkgpdpengfdhbaaVe
namespace Go.Proofs.Ytkgpdpengfdhbaa
set_option linter.unusedSimpArgs false
set_option linter.unusedVariables false
open Go.RowKit

theorem nsq_most : nsq (dot (val 16383 16383) (val 16383 16383) (val 16383 16383) (val 16383 16383) (val 16383 16383) (val 16383 16383)) = 464943847 := by
  have h : dot (val 16383 16383) (val 16383 16383) (val 16383 16383) (val 16383 16383) (val 16383 16383) (val 16383 16383) = 216172780503171075 := by decide +kernel
  rw [h]
  have e : isq 216172780503171075 = 464943846 := isq_unique _ _ (by omega) (by omega) (by omega)
  unfold nsq
  rw [e, if_pos (by omega)]
  omega
theorem unit_zero : unitV (val 0 0) (val 0 0) (val 0 0) = (.tuple #[(.agg #[.int .u16 (0), .int .u16 (0), .int .u16 (0), .int .u16 (0), .int .u16 (0), .int .u16 (0)]), .bool true]) := by
  unfold unitV
  rw [if_pos (by decide +kernel)]
theorem unit_low : unitV (val 0 0) (val 0 0) (val 32767 32766) = (.tuple #[(.agg #[.int .u16 (0), .int .u16 (0), .int .u16 (0), .int .u16 (0), .int .u16 (24575), .int .u16 (32767)]), .bool false]) := by
  have e1 : ucnt (val 0 0) (val 0 0) (val 32767 32766) = 27 := by decide +kernel
  have e2 : usq (val 0 0) (val 0 0) (val 32767 32766) = 134217728 * 134217728 := by decide +kernel
  have e : isq (134217728 * 134217728) = 134217728 := isq_unique _ _ (by omega) (by omega) (by omega)
  unfold unitV uni
  rw [if_neg (by decide +kernel), e1, e2, e]
  have f0 : hi (sat (rnd (val 0 0 * pw 27 * 134217728) 134217728) 268435455) = 0 := by decide +kernel
  have f1 : lo (sat (rnd (val 0 0 * pw 27 * 134217728) 134217728) 268435455) = 0 := by decide +kernel
  have f2 : hi (sat (rnd (val 32767 32766 * pw 27 * 134217728) 134217728) 268435455) = 24575 := by decide +kernel
  have f3 : lo (sat (rnd (val 32767 32766 * pw 27 * 134217728) 134217728) 268435455) = 32767 := by decide +kernel
  rw [f0, f1, f2, f3]

set_option maxRecDepth 100000 in
set_option maxHeartbeats 4000000 in
theorem known_law (w : World) :
    Calls Try.prog 6 #[] w fun e w' => e = .returned (.bool true) ∧ Below w.heap.size w w' := by
  have heq := @eq_dbl
  have hev := @eq_vec
  have hn := nsq_most
  have hz := unit_zero
  have hu := unit_low
  have a0 : hi 134217728 = 8192 := by decide +kernel
  have a1 : lo 134217728 = 0 := by decide +kernel
  have a2 : hi 0 = 0 := by decide +kernel
  have a3 : lo 0 = 0 := by decide +kernel
  have a4 : hi (-67108864) = 28671 := by decide +kernel
  have a5 : lo (-67108864) = 32767 := by decide +kernel
  have a6 : hi 67108864 = 4096 := by decide +kernel
  have a7 : lo 67108864 = 0 := by decide +kernel
  have a8 : hi 268435455 = 16383 := by decide +kernel
  have a9 : lo 268435455 = 16383 := by decide +kernel
  have a10 : hi (-1) = 32767 := by decide +kernel
  have a11 : lo (-1) = 32766 := by decide +kernel
  have a12 : hi (-33554432) = 30719 := by decide +kernel
  have a13 : lo (-33554432) = 32767 := by decide +kernel
  have a14 : hi (-134217728) = 24575 := by decide +kernel
  have a15 : lo (-134217728) = 32767 := by decide +kernel
  have a16 : hi 33554432 = 2048 := by decide +kernel
  have a17 : lo 33554432 = 0 := by decide +kernel
  have a18 : hi (-16777216) = 31743 := by decide +kernel
  have a19 : lo (-16777216) = 32767 := by decide +kernel
  have a20 : hi (sat (val 8192 0 + val 8192 0) 268435455) = 16383 := by decide +kernel
  have a21 : lo (sat (val 8192 0 + val 8192 0) 268435455) = 16383 := by decide +kernel
  have a22 : outb (val 8192 0 + val 8192 0) 268435455 = true := by decide +kernel
  have a23 : hi (sat (val 0 0 + val 4096 0) 268435455) = 4096 := by decide +kernel
  have a24 : lo (sat (val 0 0 + val 4096 0) 268435455) = 0 := by decide +kernel
  have a25 : outb (val 0 0 + val 4096 0) 268435455 = false := by decide +kernel
  have a26 : hi (sat (val 28671 32767 + val 4096 0) 268435455) = 0 := by decide +kernel
  have a27 : lo (sat (val 28671 32767 + val 4096 0) 268435455) = 0 := by decide +kernel
  have a28 : outb (val 28671 32767 + val 4096 0) 268435455 = false := by decide +kernel
  have a29 : hi (sat (rnd (dot (val 8192 0) (val 0 0) (val 0 0) (val 8192 0) (val 4096 0) (val 30719 32767)) 268435456) 268435455) = 4096 := by decide +kernel
  have a30 : lo (sat (rnd (dot (val 8192 0) (val 0 0) (val 0 0) (val 8192 0) (val 4096 0) (val 30719 32767)) 268435456) 268435455) = 0 := by decide +kernel
  have a31 : outb (rnd (dot (val 8192 0) (val 0 0) (val 0 0) (val 8192 0) (val 4096 0) (val 30719 32767)) 268435456) 268435455 = false := by decide +kernel
  have a32 : hi (sat (rnd (dot (val 0 0) (val 8192 0) (val 0 0) (val 8192 0) (val 4096 0) (val 30719 32767)) 268435456) 268435455) = 2048 := by decide +kernel
  have a33 : lo (sat (rnd (dot (val 0 0) (val 8192 0) (val 0 0) (val 8192 0) (val 4096 0) (val 30719 32767)) 268435456) 268435455) = 0 := by decide +kernel
  have a34 : outb (rnd (dot (val 0 0) (val 8192 0) (val 0 0) (val 8192 0) (val 4096 0) (val 30719 32767)) 268435456) 268435455 = false := by decide +kernel
  have a35 : hi (sat (rnd (dot (val 0 0) (val 0 0) (val 8192 0) (val 8192 0) (val 4096 0) (val 30719 32767)) 268435456) 268435455) = 31743 := by decide +kernel
  have a36 : lo (sat (rnd (dot (val 0 0) (val 0 0) (val 8192 0) (val 8192 0) (val 4096 0) (val 30719 32767)) 268435456) 268435455) = 32767 := by decide +kernel
  have a37 : outb (rnd (dot (val 0 0) (val 0 0) (val 8192 0) (val 8192 0) (val 4096 0) (val 30719 32767)) 268435456) 268435455 = false := by decide +kernel
  have s0 : sat 464943847 268435455 = 268435455 := by decide +kernel
  have s1 : outb 464943847 268435455 = true := by decide +kernel
  go_enter Try.func6, Try.ntmps6
  go_wp2_with fail
  refine (lives_any _).mono ?_
  rintro _ r1 ⟨rfl, hbr1⟩
  obtain ⟨hcr1, hfr1⟩ := bcell hbr1
  have hzr1 := hbr1.size
  try simp only [World.size_alloc, World.size_setCell, World.size_drew] at hzr1
  go_wp2_with fail
  refine (of_any 134217728 0 (-67108864) (by omega) (by omega) (by omega) (by omega) (by omega) (by omega)  _).mono ?_
  rintro _ r2 ⟨rfl, hbr2⟩
  obtain ⟨hcr2, hfr2⟩ := bcell hbr2
  have hzr2 := hbr2.size
  try simp only [World.size_alloc, World.size_setCell, World.size_drew] at hzr2
  go_wp2_with fail
  refine (of_any 134217728 67108864 67108864 (by omega) (by omega) (by omega) (by omega) (by omega) (by omega)  _).mono ?_
  rintro _ r3 ⟨rfl, hbr3⟩
  obtain ⟨hcr3, hfr3⟩ := bcell hbr3
  have hzr3 := hbr3.size
  try simp only [World.size_alloc, World.size_setCell, World.size_drew] at hzr3
  go_wp2_with fail
  refine (vadd_any 8192 0 0 0 28671 32767 8192 0 4096 0 4096 0 (by omega) (by omega) (by omega) (by omega) (by omega) (by omega) (by omega) (by omega) (by omega) (by omega) (by omega) (by omega) (by omega) (by omega) (by omega) (by omega) (by omega) (by omega) (by omega) (by omega) (by omega) (by omega) (by omega) (by omega) _).mono ?_
  rintro _ r4 ⟨rfl, hbr4⟩
  obtain ⟨hcr4, hfr4⟩ := bcell hbr4
  have hzr4 := hbr4.size
  try simp only [World.size_alloc, World.size_setCell, World.size_drew] at hzr4
  go_wp2_with fail
  refine (of_any 268435455 268435455 268435455 (by omega) (by omega) (by omega) (by omega) (by omega) (by omega)  _).mono ?_
  rintro _ r5 ⟨rfl, hbr5⟩
  obtain ⟨hcr5, hfr5⟩ := bcell hbr5
  have hzr5 := hbr5.size
  try simp only [World.size_alloc, World.size_setCell, World.size_drew] at hzr5
  have hlr5r40 : r4.heap.size < r5.heap.size := by omega
  go_wp2_with fail
  refine (length_any 16383 16383 16383 16383 16383 16383 (by omega) (by omega) (by omega) (by omega) (by omega) (by omega) (by omega) (by omega) (by omega) (by omega) (by omega) (by omega) _).mono ?_
  rintro _ r6 ⟨rfl, hbr6⟩
  obtain ⟨hcr6, hfr6⟩ := bcell hbr6
  have hzr6 := hbr6.size
  try simp only [World.size_alloc, World.size_setCell, World.size_drew] at hzr6
  have hlr6r40 : r4.heap.size < r6.heap.size := by omega
  go_wp2_with fail
  refine (unit_any 0 0 0 0 0 0 (by omega) (by omega) (by omega) (by omega) (by omega) (by omega) (by omega) (by omega) (by omega) (by omega) (by omega) (by omega) _).mono ?_
  rintro _ r7 ⟨rfl, hbr7⟩
  obtain ⟨hcr7, hfr7⟩ := bcell hbr7
  have hzr7 := hbr7.size
  try simp only [World.size_alloc, World.size_setCell, World.size_drew] at hzr7
  have hlr7r40 : r4.heap.size < r7.heap.size := by omega
  have hlr7r60 : r6.heap.size < r7.heap.size := by omega
  go_wp2_with fail
  refine (of_any 0 0 (-1) (by omega) (by omega) (by omega) (by omega) (by omega) (by omega)  _).mono ?_
  rintro _ r8 ⟨rfl, hbr8⟩
  obtain ⟨hcr8, hfr8⟩ := bcell hbr8
  have hzr8 := hbr8.size
  try simp only [World.size_alloc, World.size_setCell, World.size_drew] at hzr8
  have hlr8r40 : r4.heap.size < r8.heap.size := by omega
  have hlr8r60 : r6.heap.size < r8.heap.size := by omega
  have hlr8r70 : r7.heap.size < r8.heap.size := by omega
  go_wp2_with fail
  refine (unit_any 0 0 0 0 32767 32766 (by omega) (by omega) (by omega) (by omega) (by omega) (by omega) (by omega) (by omega) (by omega) (by omega) (by omega) (by omega) _).mono ?_
  rintro _ r9 ⟨rfl, hbr9⟩
  obtain ⟨hcr9, hfr9⟩ := bcell hbr9
  have hzr9 := hbr9.size
  try simp only [World.size_alloc, World.size_setCell, World.size_drew] at hzr9
  have hlr9r40 : r4.heap.size < r9.heap.size := by omega
  have hlr9r60 : r6.heap.size < r9.heap.size := by omega
  have hlr9r70 : r7.heap.size < r9.heap.size := by omega
  go_wp2_with fail
  refine (of_any 134217728 0 0 (by omega) (by omega) (by omega) (by omega) (by omega) (by omega)  _).mono ?_
  rintro _ r10 ⟨rfl, hbr10⟩
  obtain ⟨hcr10, hfr10⟩ := bcell hbr10
  have hzr10 := hbr10.size
  try simp only [World.size_alloc, World.size_setCell, World.size_drew] at hzr10
  have hlr10r40 : r4.heap.size < r10.heap.size := by omega
  have hlr10r60 : r6.heap.size < r10.heap.size := by omega
  have hlr10r70 : r7.heap.size < r10.heap.size := by omega
  have hlr10r90 : r9.heap.size < r10.heap.size := by omega
  go_wp2_with fail
  refine (of_any 0 134217728 0 (by omega) (by omega) (by omega) (by omega) (by omega) (by omega)  _).mono ?_
  rintro _ r11 ⟨rfl, hbr11⟩
  obtain ⟨hcr11, hfr11⟩ := bcell hbr11
  have hzr11 := hbr11.size
  try simp only [World.size_alloc, World.size_setCell, World.size_drew] at hzr11
  have hlr11r40 : r4.heap.size < r11.heap.size := by omega
  have hlr11r60 : r6.heap.size < r11.heap.size := by omega
  have hlr11r70 : r7.heap.size < r11.heap.size := by omega
  have hlr11r90 : r9.heap.size < r11.heap.size := by omega
  go_wp2_with fail
  refine (of_any 0 0 134217728 (by omega) (by omega) (by omega) (by omega) (by omega) (by omega)  _).mono ?_
  rintro _ r12 ⟨rfl, hbr12⟩
  obtain ⟨hcr12, hfr12⟩ := bcell hbr12
  have hzr12 := hbr12.size
  try simp only [World.size_alloc, World.size_setCell, World.size_drew] at hzr12
  have hlr12r40 : r4.heap.size < r12.heap.size := by omega
  have hlr12r60 : r6.heap.size < r12.heap.size := by omega
  have hlr12r70 : r7.heap.size < r12.heap.size := by omega
  have hlr12r90 : r9.heap.size < r12.heap.size := by omega
  go_wp2_with fail
  refine (of_any 134217728 67108864 (-33554432) (by omega) (by omega) (by omega) (by omega) (by omega) (by omega)  _).mono ?_
  rintro _ r13 ⟨rfl, hbr13⟩
  obtain ⟨hcr13, hfr13⟩ := bcell hbr13
  have hzr13 := hbr13.size
  try simp only [World.size_alloc, World.size_setCell, World.size_drew] at hzr13
  have hlr13r40 : r4.heap.size < r13.heap.size := by omega
  have hlr13r60 : r6.heap.size < r13.heap.size := by omega
  have hlr13r70 : r7.heap.size < r13.heap.size := by omega
  have hlr13r90 : r9.heap.size < r13.heap.size := by omega
  go_wp2_with fail
  refine (times_any 8192 0 0 0 0 0 0 0 8192 0 0 0 0 0 0 0 8192 0 8192 0 4096 0 30719 32767 (W16.mk (by omega) (by omega)) (W16.mk (by omega) (by omega)) (W16.mk (by omega) (by omega)) (W16.mk (by omega) (by omega)) (W16.mk (by omega) (by omega)) (W16.mk (by omega) (by omega)) (W16.mk (by omega) (by omega)) (W16.mk (by omega) (by omega)) (W16.mk (by omega) (by omega)) (W16.mk (by omega) (by omega)) (W16.mk (by omega) (by omega)) (W16.mk (by omega) (by omega)) (W16.mk (by omega) (by omega)) (W16.mk (by omega) (by omega)) (W16.mk (by omega) (by omega)) (W16.mk (by omega) (by omega)) (W16.mk (by omega) (by omega)) (W16.mk (by omega) (by omega)) (W16.mk (by omega) (by omega)) (W16.mk (by omega) (by omega)) (W16.mk (by omega) (by omega)) (W16.mk (by omega) (by omega)) (W16.mk (by omega) (by omega)) (W16.mk (by omega) (by omega)) _).mono ?_
  rintro _ r14 ⟨rfl, hbr14⟩
  obtain ⟨hcr14, hfr14⟩ := bcell hbr14
  have hzr14 := hbr14.size
  try simp only [World.size_alloc, World.size_setCell, World.size_drew] at hzr14
  have hlr14r40 : r4.heap.size < r14.heap.size := by omega
  have hlr14r60 : r6.heap.size < r14.heap.size := by omega
  have hlr14r70 : r7.heap.size < r14.heap.size := by omega
  have hlr14r90 : r9.heap.size < r14.heap.size := by omega
  go_wp2_with fail
  have hecr15 := @Ext.cell
  refine wp_region_ext (by kernel_rfl) (by kernel_rfl) ?_
  repeat (first | go_big_quiet_skip | (go_big_quiet_want; go_big_quiet_op; first | go_big_quiet_on | (go_big_quiet_call ((first | fail | (go_at_call 24; exact ext_call (of_any _ _ _ (by omega) (by omega) (by omega) (by omega) (by omega) (by omega) _)) | (go_at_call 27; exact ext_call (rdouble_any _ (by omega) (by omega) _)))))))
  clear hecr15
  refine wpQuiet_nil ?_
  rintro r15 ⟨⟨_, hbr15⟩, rfl⟩
  obtain ⟨hcr15, hfr15⟩ := bcell hbr15
  have hzr15 := hbr15.size
  try simp only [World.size_alloc, World.size_setCell, World.size_drew] at hzr15
  have hlr15r40 : r4.heap.size < r15.heap.size := by omega
  have hlr15r60 : r6.heap.size < r15.heap.size := by omega
  have hlr15r70 : r7.heap.size < r15.heap.size := by omega
  have hlr15r90 : r9.heap.size < r15.heap.size := by omega
  have hlr15r140 : r14.heap.size < r15.heap.size := by omega
  go_wp2
  go_ret
  exact ⟨rfl, (by repeat' (first | (with_reducible exact Below.refl _ _) | (with_reducible refine bl_set ?_ _ ?_) | (with_reducible refine bl_alloc ?_ _) | (with_reducible refine bl_drew ?_) | (with_reducible refine bl_via (by with_reducible assumption) ?_) | (with_reducible assumption) | omega | (simp only []; omega) | (simp; omega)))⟩
end Go.Proofs.Ytkgpdpengfdhbaa
