/- The walk of the law FixedKnown: it returns true, where the table of coefficients is as laid. -/
import Derived.Test.YtccnflemopajcaaDoorWl
import Derived.Test.YtccnflemopajcaaDoorPn
import Derived.Test.YtccnflemopajcaaDoorFn
namespace Go.Proofs.YtccnflemopajcaaDoor
set_option linter.unusedSimpArgs false
set_option linter.unusedVariables false
open Go.RowKit

theorem kd1 (w : World) : Calls Tryd.prog 23 #[(.agg #[.int .u16 (8192), .int .u16 (0)]), (.agg #[.int .u16 (4096), .int .u16 (0)])] w fun e w' => e = .returned (.tuple #[(.agg #[.int .u16 (16383), .int .u16 (16383)]), .bool true]) ∧ Below w.heap.size w w' := by
  have h := div_any 8192 0 4096 0 (by omega) (by omega) (by omega) (by omega) (by omega) (by omega) (by omega) (by omega) w
  rw [show hi (dvv (val 8192 0) (val 4096 0)) = 16383 by decide +kernel, show lo (dvv (val 8192 0) (val 4096 0)) = 16383 by decide +kernel, show dvo (val 8192 0) (val 4096 0) = true by decide +kernel] at h
  exact h
theorem kd2 (w : World) : Calls Tryd.prog 23 #[(.agg #[.int .u16 (24575), .int .u16 (32767)]), (.agg #[.int .u16 (0), .int .u16 (0)])] w fun e w' => e = .returned (.tuple #[(.agg #[.int .u16 (16384), .int .u16 (16384)]), .bool true]) ∧ Below w.heap.size w w' := by
  have h := div_any 24575 32767 0 0 (by omega) (by omega) (by omega) (by omega) (by omega) (by omega) (by omega) (by omega) w
  rw [show hi (dvv (val 24575 32767) (val 0 0)) = 16384 by decide +kernel, show lo (dvv (val 24575 32767) (val 0 0)) = 16384 by decide +kernel, show dvo (val 24575 32767) (val 0 0) = true by decide +kernel] at h
  exact h
theorem kd3 (w : World) : Calls Tryd.prog 23 #[(.agg #[.int .u16 (0), .int .u16 (0)]), (.agg #[.int .u16 (0), .int .u16 (0)])] w fun e w' => e = .returned (.tuple #[(.agg #[.int .u16 (0), .int .u16 (0)]), .bool true]) ∧ Below w.heap.size w w' := by
  have h := div_any 0 0 0 0 (by omega) (by omega) (by omega) (by omega) (by omega) (by omega) (by omega) (by omega) w
  rw [show hi (dvv (val 0 0) (val 0 0)) = 0 by decide +kernel, show lo (dvv (val 0 0) (val 0 0)) = 0 by decide +kernel, show dvo (val 0 0) (val 0 0) = true by decide +kernel] at h
  exact h
theorem kr1 (w : World) : Calls Tryd.prog 25 #[(.agg #[.int .u16 (0), .int .u16 (2)])] w fun e w' => e = .returned (.tuple #[(.agg #[.int .u16 (1), .int .u16 (6786)]), .bool false]) ∧ Below w.heap.size w w' := by
  have h := sqrt_pos 0 2 (by omega) (by omega) (by omega) (by omega) (by decide +kernel) w
  have e : isq (val 0 2 * 268435456) = 23170 := isq_unique _ _ (by omega) (by decide +kernel) (by decide +kernel)
  have n : nsq (val 0 2 * 268435456) = 23170 := by unfold nsq; rw [e, if_neg (by decide +kernel)]
  rw [n, show hi 23170 = 1 by decide +kernel, show lo 23170 = 6786 by decide +kernel] at h
  exact h
theorem kr2 (w : World) : Calls Tryd.prog 25 #[(.agg #[.int .u16 (32767), .int .u16 (32766)])] w fun e w' => e = .returned (.tuple #[(.agg #[.int .u16 (0), .int .u16 (0)]), .bool true]) ∧ Below w.heap.size w w' := by
  exact sqrt_neg 32767 32766 (by omega) (by omega) (by omega) (by omega) (by decide +kernel) w
theorem km1 (w : World) : Calls Tryd.prog 14 #[(.agg #[.int .u16 (0), .int .u16 (1)]), (.agg #[.int .u16 (8192), .int .u16 (0)])] w fun e w' => e = .returned (.agg #[.int .u16 (0), .int .u16 (1)]) ∧ Below w.heap.size w w' := by
  have h := mul_any 0 1 8192 0 (by omega) (by omega) (by omega) (by omega) (by omega) (by omega) (by omega) (by omega) w
  rw [show hi (mulv (val 0 1) (val 8192 0)) = 0 by decide +kernel, show lo (mulv (val 0 1) (val 8192 0)) = 1 by decide +kernel] at h
  exact h
theorem km2 (w : World) : Calls Tryd.prog 14 #[(.agg #[.int .u16 (32767), .int .u16 (32766)]), (.agg #[.int .u16 (8192), .int .u16 (0)])] w fun e w' => e = .returned (.agg #[.int .u16 (32767), .int .u16 (32766)]) ∧ Below w.heap.size w w' := by
  have h := mul_any 32767 32766 8192 0 (by omega) (by omega) (by omega) (by omega) (by omega) (by omega) (by omega) (by omega) w
  rw [show hi (mulv (val 32767 32766) (val 8192 0)) = 32767 by decide +kernel, show lo (mulv (val 32767 32766) (val 8192 0)) = 32766 by decide +kernel] at h
  exact h
theorem km3 (w : World) : Calls Tryd.prog 14 #[(.agg #[.int .u16 (0), .int .u16 (1)]), (.agg #[.int .u16 (4096), .int .u16 (0)])] w fun e w' => e = .returned (.agg #[.int .u16 (0), .int .u16 (0)]) ∧ Below w.heap.size w w' := by
  have h := mul_any 0 1 4096 0 (by omega) (by omega) (by omega) (by omega) (by omega) (by omega) (by omega) (by omega) w
  rw [show hi (mulv (val 0 1) (val 4096 0)) = 0 by decide +kernel, show lo (mulv (val 0 1) (val 4096 0)) = 0 by decide +kernel] at h
  exact h
theorem km4 (w : World) : Calls Tryd.prog 14 #[(.agg #[.int .u16 (16383), .int .u16 (16383)]), (.agg #[.int .u16 (16383), .int .u16 (16383)])] w fun e w' => e = .returned (.agg #[.int .u16 (16383), .int .u16 (16382)]) ∧ Below w.heap.size w w' := by
  have h := mul_any 16383 16383 16383 16383 (by omega) (by omega) (by omega) (by omega) (by omega) (by omega) (by omega) (by omega) w
  rw [show hi (mulv (val 16383 16383) (val 16383 16383)) = 16383 by decide +kernel, show lo (mulv (val 16383 16383) (val 16383 16383)) = 16382 by decide +kernel] at h
  exact h
theorem ks1 (w : World) (hS : Sines w) : Calls Tryd.prog 28 #[(.agg #[.int .u16 (28671), .int .u16 (32767)])] w fun e w' => e = .returned (.agg #[.int .u16 (24575), .int .u16 (32767)]) ∧ Below w.heap.size w w' := by
  have h := Sin_any 28671 32767 (by omega) (by omega) (by omega) (by omega) w hS
  rw [show hi (sinv (val 28671 32767)) = 24575 by decide +kernel, show lo (sinv (val 28671 32767)) = 32767 by decide +kernel] at h
  exact h
theorem ks2 (w : World) (hS : Sines w) : Calls Tryd.prog 28 #[(.agg #[.int .u16 (8192), .int .u16 (0)])] w fun e w' => e = .returned (.agg #[.int .u16 (0), .int .u16 (0)]) ∧ Below w.heap.size w w' := by
  have h := Sin_any 8192 0 (by omega) (by omega) (by omega) (by omega) w hS
  rw [show hi (sinv (val 8192 0)) = 0 by decide +kernel, show lo (sinv (val 8192 0)) = 0 by decide +kernel] at h
  exact h
theorem ks3 (w : World) (hS : Sines w) : Calls Tryd.prog 28 #[(.agg #[.int .u16 (0), .int .u16 (0)])] w fun e w' => e = .returned (.agg #[.int .u16 (0), .int .u16 (0)]) ∧ Below w.heap.size w w' := by
  have h := Sin_any 0 0 (by omega) (by omega) (by omega) (by omega) w hS
  rw [show hi (sinv (val 0 0)) = 0 by decide +kernel, show lo (sinv (val 0 0)) = 0 by decide +kernel] at h
  exact h
theorem ks4 (w : World) (hS : Sines w) : Calls Tryd.prog 30 #[(.agg #[.int .u16 (8192), .int .u16 (0)])] w fun e w' => e = .returned (.agg #[.int .u16 (24575), .int .u16 (32767)]) ∧ Below w.heap.size w w' := by
  have h := Cos_any 8192 0 (by omega) (by omega) (by omega) (by omega) w hS
  rw [show hi (sinv (val 8192 0 + 67108864)) = 24575 by decide +kernel, show lo (sinv (val 8192 0 + 67108864)) = 32767 by decide +kernel] at h
  exact h

set_option maxRecDepth 100000 in
set_option maxHeartbeats 8000000 in
theorem known_law (w : World) (hS : Sines w) :
    Calls Tryd.prog 12 #[] w fun e w' => e = .returned (.bool true) ∧ Below w.heap.size w w' := by
  have heq := @eq_dbl
  go_enter Tryd.func12, Tryd.ntmps12
  go_wp2_with fail
  refine (lives16 _ hS).mono ?_
  rintro _ r1 ⟨rfl, hbr1⟩
  obtain ⟨hcr1, hfr1⟩ := bcell hbr1
  have hzr1 := hbr1.size
  try simp only [World.size_alloc, World.size_setCell, World.size_drew] at hzr1
  have hS1 := hS.on hbr1
  go_wp2_with fail
  refine (half16 _).mono ?_
  rintro _ r2 ⟨rfl, hbr2⟩
  obtain ⟨hcr2, hfr2⟩ := bcell hbr2
  have hzr2 := hbr2.size
  try simp only [World.size_alloc, World.size_setCell, World.size_drew] at hzr2
  have hlr2r10 : r1.heap.size < r2.heap.size := by omega
  have hlr2r11 : r1.heap.size + 1 < r2.heap.size := by omega
  have hlr2r12 : r1.heap.size + 1 + 1 < r2.heap.size := by omega
  have hS2 := (((hS1.on (bl_alloc (Below.refl _ _) _)).on (bl_alloc (Below.refl _ _) _)).on (bl_alloc (Below.refl _ _) _)).on hbr2
  go_wp2_with fail
  refine (quarter16 _).mono ?_
  rintro _ r3 ⟨rfl, hbr3⟩
  obtain ⟨hcr3, hfr3⟩ := bcell hbr3
  have hzr3 := hbr3.size
  try simp only [World.size_alloc, World.size_setCell, World.size_drew] at hzr3
  have hlr3r10 : r1.heap.size < r3.heap.size := by omega
  have hlr3r11 : r1.heap.size + 1 < r3.heap.size := by omega
  have hlr3r12 : r1.heap.size + 1 + 1 < r3.heap.size := by omega
  have hS3 := hS2.on hbr3
  go_wp2_with fail
  refine (kd1 _).mono ?_
  rintro _ r4 ⟨rfl, hbr4⟩
  obtain ⟨hcr4, hfr4⟩ := bcell hbr4
  have hzr4 := hbr4.size
  try simp only [World.size_alloc, World.size_setCell, World.size_drew] at hzr4
  have hlr4r10 : r1.heap.size < r4.heap.size := by omega
  have hlr4r11 : r1.heap.size + 1 < r4.heap.size := by omega
  have hlr4r12 : r1.heap.size + 1 + 1 < r4.heap.size := by omega
  have hS4 := hS3.on hbr4
  go_wp2_with fail
  refine (kd2 _).mono ?_
  rintro _ r5 ⟨rfl, hbr5⟩
  obtain ⟨hcr5, hfr5⟩ := bcell hbr5
  have hzr5 := hbr5.size
  try simp only [World.size_alloc, World.size_setCell, World.size_drew] at hzr5
  have hlr5r10 : r1.heap.size < r5.heap.size := by omega
  have hlr5r11 : r1.heap.size + 1 < r5.heap.size := by omega
  have hlr5r12 : r1.heap.size + 1 + 1 < r5.heap.size := by omega
  have hlr5r40 : r4.heap.size < r5.heap.size := by omega
  have hS5 := (hS4.on (bl_alloc (Below.refl _ _) _)).on hbr5
  go_wp2_with fail
  refine (kd3 _).mono ?_
  rintro _ r6 ⟨rfl, hbr6⟩
  obtain ⟨hcr6, hfr6⟩ := bcell hbr6
  have hzr6 := hbr6.size
  try simp only [World.size_alloc, World.size_setCell, World.size_drew] at hzr6
  have hlr6r10 : r1.heap.size < r6.heap.size := by omega
  have hlr6r11 : r1.heap.size + 1 < r6.heap.size := by omega
  have hlr6r12 : r1.heap.size + 1 + 1 < r6.heap.size := by omega
  have hlr6r40 : r4.heap.size < r6.heap.size := by omega
  have hlr6r50 : r5.heap.size < r6.heap.size := by omega
  have hS6 := (hS5.on (bl_alloc (Below.refl _ _) _)).on hbr6
  go_wp2_with fail
  refine (kr1 _).mono ?_
  rintro _ r7 ⟨rfl, hbr7⟩
  obtain ⟨hcr7, hfr7⟩ := bcell hbr7
  have hzr7 := hbr7.size
  try simp only [World.size_alloc, World.size_setCell, World.size_drew] at hzr7
  have hlr7r10 : r1.heap.size < r7.heap.size := by omega
  have hlr7r11 : r1.heap.size + 1 < r7.heap.size := by omega
  have hlr7r12 : r1.heap.size + 1 + 1 < r7.heap.size := by omega
  have hlr7r40 : r4.heap.size < r7.heap.size := by omega
  have hlr7r50 : r5.heap.size < r7.heap.size := by omega
  have hlr7r60 : r6.heap.size < r7.heap.size := by omega
  have hS7 := (hS6.on (bl_alloc (Below.refl _ _) _)).on hbr7
  go_wp2_with fail
  refine (kr2 _).mono ?_
  rintro _ r8 ⟨rfl, hbr8⟩
  obtain ⟨hcr8, hfr8⟩ := bcell hbr8
  have hzr8 := hbr8.size
  try simp only [World.size_alloc, World.size_setCell, World.size_drew] at hzr8
  have hlr8r10 : r1.heap.size < r8.heap.size := by omega
  have hlr8r11 : r1.heap.size + 1 < r8.heap.size := by omega
  have hlr8r12 : r1.heap.size + 1 + 1 < r8.heap.size := by omega
  have hlr8r40 : r4.heap.size < r8.heap.size := by omega
  have hlr8r50 : r5.heap.size < r8.heap.size := by omega
  have hlr8r60 : r6.heap.size < r8.heap.size := by omega
  have hlr8r70 : r7.heap.size < r8.heap.size := by omega
  have hS8 := (hS7.on (bl_alloc (Below.refl _ _) _)).on hbr8
  go_wp2_with fail
  refine (half16 _).mono ?_
  rintro _ r9 ⟨rfl, hbr9⟩
  obtain ⟨hcr9, hfr9⟩ := bcell hbr9
  have hzr9 := hbr9.size
  try simp only [World.size_alloc, World.size_setCell, World.size_drew] at hzr9
  have hlr9r10 : r1.heap.size < r9.heap.size := by omega
  have hlr9r11 : r1.heap.size + 1 < r9.heap.size := by omega
  have hlr9r12 : r1.heap.size + 1 + 1 < r9.heap.size := by omega
  have hlr9r40 : r4.heap.size < r9.heap.size := by omega
  have hlr9r50 : r5.heap.size < r9.heap.size := by omega
  have hlr9r60 : r6.heap.size < r9.heap.size := by omega
  have hlr9r70 : r7.heap.size < r9.heap.size := by omega
  have hlr9r80 : r8.heap.size < r9.heap.size := by omega
  have hS9 := (hS8.on (bl_alloc (Below.refl _ _) _)).on hbr9
  go_wp2_with fail
  refine (poly_nil 8192 0 (by omega) (by omega) (by omega) (by omega) _).mono ?_
  rintro _ r10 ⟨rfl, hbr10⟩
  obtain ⟨hcr10, hfr10⟩ := bcell hbr10
  have hzr10 := hbr10.size
  try simp only [World.size_alloc, World.size_setCell, World.size_drew] at hzr10
  have hlr10r10 : r1.heap.size < r10.heap.size := by omega
  have hlr10r11 : r1.heap.size + 1 < r10.heap.size := by omega
  have hlr10r12 : r1.heap.size + 1 + 1 < r10.heap.size := by omega
  have hlr10r40 : r4.heap.size < r10.heap.size := by omega
  have hlr10r50 : r5.heap.size < r10.heap.size := by omega
  have hlr10r60 : r6.heap.size < r10.heap.size := by omega
  have hlr10r70 : r7.heap.size < r10.heap.size := by omega
  have hlr10r80 : r8.heap.size < r10.heap.size := by omega
  have hS10 := hS9.on hbr10
  go_wp2_with fail
  have hecr11 := @Ext.cell
  refine wp_region_ext (by kernel_rfl) (by kernel_rfl) ?_
  repeat (first | go_big_quiet_skip | (go_big_quiet_want; go_big_quiet_op; first | go_big_quiet_on | (go_big_quiet_call ((first | fail | (go_at_call 31; with_reducible exact ext_call (half16 _)) | (go_at_call 32; with_reducible exact ext_call (quarter16 _)) | (go_at_call 14; with_reducible exact ext_call (km1 _)) | (go_at_call 14; with_reducible exact ext_call (km2 _)) | (go_at_call 14; with_reducible exact ext_call (km3 _)) | (go_at_call 14; with_reducible exact ext_call (km4 _)))))))
  clear hecr11
  refine wpQuiet_nil ?_
  rintro r11 ⟨⟨_, hbr11⟩, rfl⟩
  obtain ⟨hcr11, hfr11⟩ := bcell hbr11
  have hzr11 := hbr11.size
  try simp only [World.size_alloc, World.size_setCell, World.size_drew] at hzr11
  have hlr11r10 : r1.heap.size < r11.heap.size := by omega
  have hlr11r11 : r1.heap.size + 1 < r11.heap.size := by omega
  have hlr11r12 : r1.heap.size + 1 + 1 < r11.heap.size := by omega
  have hlr11r40 : r4.heap.size < r11.heap.size := by omega
  have hlr11r50 : r5.heap.size < r11.heap.size := by omega
  have hlr11r60 : r6.heap.size < r11.heap.size := by omega
  have hlr11r70 : r7.heap.size < r11.heap.size := by omega
  have hlr11r80 : r8.heap.size < r11.heap.size := by omega
  have hlr11r100 : r10.heap.size < r11.heap.size := by omega
  have hS11 := (hS10.on (bl_alloc (Below.refl _ _) _)).on hbr11
  go_wp2_with fail
  refine (ks1 _ hS11).mono ?_
  rintro _ r12 ⟨rfl, hbr12⟩
  obtain ⟨hcr12, hfr12⟩ := bcell hbr12
  have hzr12 := hbr12.size
  try simp only [World.size_alloc, World.size_setCell, World.size_drew] at hzr12
  have hlr12r10 : r1.heap.size < r12.heap.size := by omega
  have hlr12r11 : r1.heap.size + 1 < r12.heap.size := by omega
  have hlr12r12 : r1.heap.size + 1 + 1 < r12.heap.size := by omega
  have hlr12r40 : r4.heap.size < r12.heap.size := by omega
  have hlr12r50 : r5.heap.size < r12.heap.size := by omega
  have hlr12r60 : r6.heap.size < r12.heap.size := by omega
  have hlr12r70 : r7.heap.size < r12.heap.size := by omega
  have hlr12r80 : r8.heap.size < r12.heap.size := by omega
  have hlr12r100 : r10.heap.size < r12.heap.size := by omega
  have hS12 := hS11.on hbr12
  go_wp2_with fail
  refine (half16 _).mono ?_
  rintro _ r13 ⟨rfl, hbr13⟩
  obtain ⟨hcr13, hfr13⟩ := bcell hbr13
  have hzr13 := hbr13.size
  try simp only [World.size_alloc, World.size_setCell, World.size_drew] at hzr13
  have hlr13r10 : r1.heap.size < r13.heap.size := by omega
  have hlr13r11 : r1.heap.size + 1 < r13.heap.size := by omega
  have hlr13r12 : r1.heap.size + 1 + 1 < r13.heap.size := by omega
  have hlr13r40 : r4.heap.size < r13.heap.size := by omega
  have hlr13r50 : r5.heap.size < r13.heap.size := by omega
  have hlr13r60 : r6.heap.size < r13.heap.size := by omega
  have hlr13r70 : r7.heap.size < r13.heap.size := by omega
  have hlr13r80 : r8.heap.size < r13.heap.size := by omega
  have hlr13r100 : r10.heap.size < r13.heap.size := by omega
  have hS13 := hS12.on hbr13
  go_wp2_with fail
  refine (ks2 _ hS13).mono ?_
  rintro _ r14 ⟨rfl, hbr14⟩
  obtain ⟨hcr14, hfr14⟩ := bcell hbr14
  have hzr14 := hbr14.size
  try simp only [World.size_alloc, World.size_setCell, World.size_drew] at hzr14
  have hlr14r10 : r1.heap.size < r14.heap.size := by omega
  have hlr14r11 : r1.heap.size + 1 < r14.heap.size := by omega
  have hlr14r12 : r1.heap.size + 1 + 1 < r14.heap.size := by omega
  have hlr14r40 : r4.heap.size < r14.heap.size := by omega
  have hlr14r50 : r5.heap.size < r14.heap.size := by omega
  have hlr14r60 : r6.heap.size < r14.heap.size := by omega
  have hlr14r70 : r7.heap.size < r14.heap.size := by omega
  have hlr14r80 : r8.heap.size < r14.heap.size := by omega
  have hlr14r100 : r10.heap.size < r14.heap.size := by omega
  have hS14 := hS13.on hbr14
  go_wp2_with fail
  refine (ks3 _ hS14).mono ?_
  rintro _ r15 ⟨rfl, hbr15⟩
  obtain ⟨hcr15, hfr15⟩ := bcell hbr15
  have hzr15 := hbr15.size
  try simp only [World.size_alloc, World.size_setCell, World.size_drew] at hzr15
  have hlr15r10 : r1.heap.size < r15.heap.size := by omega
  have hlr15r11 : r1.heap.size + 1 < r15.heap.size := by omega
  have hlr15r12 : r1.heap.size + 1 + 1 < r15.heap.size := by omega
  have hlr15r40 : r4.heap.size < r15.heap.size := by omega
  have hlr15r50 : r5.heap.size < r15.heap.size := by omega
  have hlr15r60 : r6.heap.size < r15.heap.size := by omega
  have hlr15r70 : r7.heap.size < r15.heap.size := by omega
  have hlr15r80 : r8.heap.size < r15.heap.size := by omega
  have hlr15r100 : r10.heap.size < r15.heap.size := by omega
  have hS15 := hS14.on hbr15
  go_wp2_with fail
  refine (half16 _).mono ?_
  rintro _ r16 ⟨rfl, hbr16⟩
  obtain ⟨hcr16, hfr16⟩ := bcell hbr16
  have hzr16 := hbr16.size
  try simp only [World.size_alloc, World.size_setCell, World.size_drew] at hzr16
  have hlr16r10 : r1.heap.size < r16.heap.size := by omega
  have hlr16r11 : r1.heap.size + 1 < r16.heap.size := by omega
  have hlr16r12 : r1.heap.size + 1 + 1 < r16.heap.size := by omega
  have hlr16r40 : r4.heap.size < r16.heap.size := by omega
  have hlr16r50 : r5.heap.size < r16.heap.size := by omega
  have hlr16r60 : r6.heap.size < r16.heap.size := by omega
  have hlr16r70 : r7.heap.size < r16.heap.size := by omega
  have hlr16r80 : r8.heap.size < r16.heap.size := by omega
  have hlr16r100 : r10.heap.size < r16.heap.size := by omega
  have hS16 := hS15.on hbr16
  go_wp2_with fail
  refine (ks4 _ hS16).mono ?_
  rintro _ r17 ⟨rfl, hbr17⟩
  obtain ⟨hcr17, hfr17⟩ := bcell hbr17
  have hzr17 := hbr17.size
  try simp only [World.size_alloc, World.size_setCell, World.size_drew] at hzr17
  have hlr17r10 : r1.heap.size < r17.heap.size := by omega
  have hlr17r11 : r1.heap.size + 1 < r17.heap.size := by omega
  have hlr17r12 : r1.heap.size + 1 + 1 < r17.heap.size := by omega
  have hlr17r40 : r4.heap.size < r17.heap.size := by omega
  have hlr17r50 : r5.heap.size < r17.heap.size := by omega
  have hlr17r60 : r6.heap.size < r17.heap.size := by omega
  have hlr17r70 : r7.heap.size < r17.heap.size := by omega
  have hlr17r80 : r8.heap.size < r17.heap.size := by omega
  have hlr17r100 : r10.heap.size < r17.heap.size := by omega
  have hS17 := hS16.on hbr17
  go_wp2
  go_ret
  exact ⟨rfl, (by repeat' (first | (with_reducible exact Below.refl _ _) | (with_reducible refine bl_set ?_ _ ?_) | (with_reducible refine bl_alloc ?_ _) | (with_reducible refine bl_drew ?_) | (with_reducible refine bl_via (by with_reducible assumption) ?_) | (with_reducible assumption) | omega | (simp only []; omega) | (simp; omega)))⟩
end Go.Proofs.YtccnflemopajcaaDoor
