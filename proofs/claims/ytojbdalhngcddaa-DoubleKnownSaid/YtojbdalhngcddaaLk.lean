/- The walk of DoubleKnown: the examples of the chapter. -/
import Derived.Test.YtojbdalhngcddaaLa
namespace Go.Proofs.Ytojbdalhngcddaa
set_option linter.unusedSimpArgs false
set_option linter.unusedVariables false
open Go.RowKit

set_option maxRecDepth 100000 in
set_option maxHeartbeats 2000000 in
theorem known_law (w : World) :
    Calls Try.prog 10 #[] w fun e w' => e = .returned (.bool true) ∧ Below w.heap.size w w' := by
  have heq := @eq_dbl
  have heq3 := @eq_tri
  have z0 : hi 0 = 0 := by decide +kernel
  have z1 : lo 0 = 0 := by decide +kernel
  have a0 : hi (-5) = 32767 := by decide +kernel
  have a1 : lo (-5) = 32762 := by decide +kernel
  have a2 : hi (sat (-268435456) 268435455) = 16384 := by decide +kernel
  have a3 : lo (sat (-268435456) 268435455) = 16384 := by decide +kernel
  have a4 : outb (-268435456) 268435455 = true := by decide +kernel
  have a5 : hi (sat (val 0 5 - val 0 7) 268435455) = 32767 := by decide +kernel
  have a6 : lo (sat (val 0 5 - val 0 7) 268435455) = 32765 := by decide +kernel
  have a7 : outb (val 0 5 - val 0 7) 268435455 = false := by decide +kernel
  have a8 : hi (shv (val 32767 32764) (-1)) = 32767 := by decide +kernel
  have a9 : lo (shv (val 32767 32764) (-1)) = 32765 := by decide +kernel
  have b0 : sho (val 32767 32764) (-1) = false := by decide +kernel
  have b1 : hi (shv (val 0 1) 28) = 16383 := by decide +kernel
  have b2 : lo (shv (val 0 1) 28) = 16383 := by decide +kernel
  have b3 : sho (val 0 1) 28 = true := by decide +kernel
  have b4 : hi (shv (val 0 1) 27) = 8192 := by decide +kernel
  have b5 : lo (shv (val 0 1) 27) = 0 := by decide +kernel
  have b6 : sho (val 0 1) 27 = false := by decide +kernel
  have c0 : hi (sat (rnd (tval 0 0 8192) 16384) 268435455) = 0 := by decide +kernel
  have c1 : lo (sat (rnd (tval 0 0 8192) 16384) 268435455) = 1 := by decide +kernel
  have c2 : outb (rnd (tval 0 0 8192) 16384) 268435455 = false := by decide +kernel
  have c3 : hi (sat (rnd (tval 0 0 8191) 16384) 268435455) = 0 := by decide +kernel
  have c4 : lo (sat (rnd (tval 0 0 8191) 16384) 268435455) = 0 := by decide +kernel
  have c5 : outb (rnd (tval 0 0 8191) 16384) 268435455 = false := by decide +kernel
  have d0 : val 1 5 = 16389 := by decide +kernel
  have d1 : val 0 32762 = -5 := by decide +kernel
  have d2 : val 32767 0 = 0 := by decide +kernel
  have d3 : hi (val 1 32762) = 0 := by decide +kernel
  have d4 : lo (val 1 32762) = 16379 := by decide +kernel
  have d5 : -val 0 0 = 0 := by decide +kernel
  have d6 : cmpv (val 32767 32767) (val 0 0) = 0 := by decide +kernel
  go_enter Try.func10, Try.ntmps10
  go_wp2_with fail
  refine (lives_any _).mono ?_
  rintro _ r1 ⟨rfl, hbr1⟩
  obtain ⟨hcr1, hfr1⟩ := bcell hbr1
  have hzr1 := hbr1.size
  try simp only [World.size_alloc, World.size_setCell, World.size_drew] at hzr1
  go_wp2_with fail
  refine (make_in (-5) (by omega) (by omega) _).mono ?_
  rintro _ r2 ⟨rfl, hbr2⟩
  obtain ⟨hcr2, hfr2⟩ := bcell hbr2
  have hzr2 := hbr2.size
  try simp only [World.size_alloc, World.size_setCell, World.size_drew] at hzr2
  go_wp2_with fail
  refine (make_out 268435456 (by decide +kernel) _).mono ?_
  rintro _ r3 ⟨rfl, hbr3⟩
  obtain ⟨hcr3, hfr3⟩ := bcell hbr3
  have hzr3 := hbr3.size
  try simp only [World.size_alloc, World.size_setCell, World.size_drew] at hzr3
  have hlr3r20 : r2.heap.size < r3.heap.size := by omega
  go_wp2_with fail
  refine (clamp_any (-268435456) _).mono ?_
  rintro _ r4 ⟨rfl, hbr4⟩
  obtain ⟨hcr4, hfr4⟩ := bcell hbr4
  have hzr4 := hbr4.size
  try simp only [World.size_alloc, World.size_setCell, World.size_drew] at hzr4
  have hlr4r20 : r2.heap.size < r4.heap.size := by omega
  go_wp2_with fail
  refine (sub_any 0 5 0 7 (by omega) (by omega) (by omega) (by omega) (by omega) (by omega) (by omega) (by omega) _).mono ?_
  rintro _ r5 ⟨rfl, hbr5⟩
  obtain ⟨hcr5, hfr5⟩ := bcell hbr5
  have hzr5 := hbr5.size
  try simp only [World.size_alloc, World.size_setCell, World.size_drew] at hzr5
  have hlr5r20 : r2.heap.size < r5.heap.size := by omega
  have hlr5r40 : r4.heap.size < r5.heap.size := by omega
  go_wp2_with fail
  refine (shift_any 32767 32764 (-1) (by omega) (by omega) (by omega) (by omega) (by omega) (by omega) _).mono ?_
  rintro _ r6 ⟨rfl, hbr6⟩
  obtain ⟨hcr6, hfr6⟩ := bcell hbr6
  have hzr6 := hbr6.size
  try simp only [World.size_alloc, World.size_setCell, World.size_drew] at hzr6
  have hlr6r20 : r2.heap.size < r6.heap.size := by omega
  have hlr6r40 : r4.heap.size < r6.heap.size := by omega
  have hlr6r50 : r5.heap.size < r6.heap.size := by omega
  go_wp2_with fail
  refine (shift_any 0 1 28 (by omega) (by omega) (by omega) (by omega) (by omega) (by omega) _).mono ?_
  rintro _ r7 ⟨rfl, hbr7⟩
  obtain ⟨hcr7, hfr7⟩ := bcell hbr7
  have hzr7 := hbr7.size
  try simp only [World.size_alloc, World.size_setCell, World.size_drew] at hzr7
  have hlr7r20 : r2.heap.size < r7.heap.size := by omega
  have hlr7r40 : r4.heap.size < r7.heap.size := by omega
  have hlr7r50 : r5.heap.size < r7.heap.size := by omega
  have hlr7r60 : r6.heap.size < r7.heap.size := by omega
  go_wp2_with fail
  refine (shift_any 0 1 27 (by omega) (by omega) (by omega) (by omega) (by omega) (by omega) _).mono ?_
  rintro _ r8 ⟨rfl, hbr8⟩
  obtain ⟨hcr8, hfr8⟩ := bcell hbr8
  have hzr8 := hbr8.size
  try simp only [World.size_alloc, World.size_setCell, World.size_drew] at hzr8
  have hlr8r20 : r2.heap.size < r8.heap.size := by omega
  have hlr8r40 : r4.heap.size < r8.heap.size := by omega
  have hlr8r50 : r5.heap.size < r8.heap.size := by omega
  have hlr8r60 : r6.heap.size < r8.heap.size := by omega
  have hlr8r70 : r7.heap.size < r8.heap.size := by omega
  go_wp2_with fail
  refine (normal_zero 0 0 (by omega) (by omega) (by omega) (by omega) (by decide +kernel) _).mono ?_
  rintro _ r9 ⟨rfl, hbr9⟩
  obtain ⟨hcr9, hfr9⟩ := bcell hbr9
  have hzr9 := hbr9.size
  try simp only [World.size_alloc, World.size_setCell, World.size_drew] at hzr9
  have hlr9r20 : r2.heap.size < r9.heap.size := by omega
  have hlr9r40 : r4.heap.size < r9.heap.size := by omega
  have hlr9r50 : r5.heap.size < r9.heap.size := by omega
  have hlr9r60 : r6.heap.size < r9.heap.size := by omega
  have hlr9r70 : r7.heap.size < r9.heap.size := by omega
  have hlr9r80 : r8.heap.size < r9.heap.size := by omega
  go_wp2_with fail
  refine (round_any 0 0 8192 (by omega) (by omega) (by omega) (by omega) (by omega) (by omega) _).mono ?_
  rintro _ r10 ⟨rfl, hbr10⟩
  obtain ⟨hcr10, hfr10⟩ := bcell hbr10
  have hzr10 := hbr10.size
  try simp only [World.size_alloc, World.size_setCell, World.size_drew] at hzr10
  have hlr10r20 : r2.heap.size < r10.heap.size := by omega
  have hlr10r40 : r4.heap.size < r10.heap.size := by omega
  have hlr10r50 : r5.heap.size < r10.heap.size := by omega
  have hlr10r60 : r6.heap.size < r10.heap.size := by omega
  have hlr10r70 : r7.heap.size < r10.heap.size := by omega
  have hlr10r80 : r8.heap.size < r10.heap.size := by omega
  have hlr10r90 : r9.heap.size < r10.heap.size := by omega
  go_wp2_with fail
  refine (round_any 0 0 8191 (by omega) (by omega) (by omega) (by omega) (by omega) (by omega) _).mono ?_
  rintro _ r11 ⟨rfl, hbr11⟩
  obtain ⟨hcr11, hfr11⟩ := bcell hbr11
  have hzr11 := hbr11.size
  try simp only [World.size_alloc, World.size_setCell, World.size_drew] at hzr11
  have hlr11r20 : r2.heap.size < r11.heap.size := by omega
  have hlr11r40 : r4.heap.size < r11.heap.size := by omega
  have hlr11r50 : r5.heap.size < r11.heap.size := by omega
  have hlr11r60 : r6.heap.size < r11.heap.size := by omega
  have hlr11r70 : r7.heap.size < r11.heap.size := by omega
  have hlr11r80 : r8.heap.size < r11.heap.size := by omega
  have hlr11r90 : r9.heap.size < r11.heap.size := by omega
  have hlr11r100 : r10.heap.size < r11.heap.size := by omega
  go_wp2_with fail
  refine (value_any 1 5 (by omega) (by omega) (by omega) (by omega) _).mono ?_
  rintro _ r12 ⟨rfl, hbr12⟩
  obtain ⟨hcr12, hfr12⟩ := bcell hbr12
  have hzr12 := hbr12.size
  try simp only [World.size_alloc, World.size_setCell, World.size_drew] at hzr12
  go_wp2_with fail
  refine (value_any 0 32762 (by omega) (by omega) (by omega) (by omega) _).mono ?_
  rintro _ r13 ⟨rfl, hbr13⟩
  obtain ⟨hcr13, hfr13⟩ := bcell hbr13
  have hzr13 := hbr13.size
  try simp only [World.size_alloc, World.size_setCell, World.size_drew] at hzr13
  go_wp2_with fail
  refine (value_any 32767 0 (by omega) (by omega) (by omega) (by omega) _).mono ?_
  rintro _ r14 ⟨rfl, hbr14⟩
  obtain ⟨hcr14, hfr14⟩ := bcell hbr14
  have hzr14 := hbr14.size
  try simp only [World.size_alloc, World.size_setCell, World.size_drew] at hzr14
  go_wp2_with fail
  refine (canon_any 1 32762 (by omega) (by omega) (by omega) (by omega) _).mono ?_
  rintro _ r15 ⟨rfl, hbr15⟩
  obtain ⟨hcr15, hfr15⟩ := bcell hbr15
  have hzr15 := hbr15.size
  try simp only [World.size_alloc, World.size_setCell, World.size_drew] at hzr15
  go_wp2_with fail
  refine (neg_any 0 0 (by omega) (by omega) (by omega) (by omega) _).mono ?_
  rintro _ r16 ⟨rfl, hbr16⟩
  obtain ⟨hcr16, hfr16⟩ := bcell hbr16
  have hzr16 := hbr16.size
  try simp only [World.size_alloc, World.size_setCell, World.size_drew] at hzr16
  go_wp2_with fail
  refine (cmp_any 32767 32767 0 0 (by omega) (by omega) (by omega) (by omega) (by omega) (by omega) (by omega) (by omega) _).mono ?_
  rintro _ r17 ⟨rfl, hbr17⟩
  obtain ⟨hcr17, hfr17⟩ := bcell hbr17
  have hzr17 := hbr17.size
  try simp only [World.size_alloc, World.size_setCell, World.size_drew] at hzr17
  go_wp2
  go_ret
  exact ⟨rfl, (by repeat' (first | exact Below.refl _ _ | refine bl_alloc ?_ _ | refine bl_drew ?_ | refine bl_set ?_ _ ?_ | refine bl_via (by assumption) ?_ | (simp only []; omega) | omega | (simp; omega)))⟩
end Go.Proofs.Ytojbdalhngcddaa
