/- The examples that every law of this chapter checks first: 'lives' returns true. No conditions. -/
import Derived.Test.YtojbdalhngcddaaRb
import Derived.Test.YtojbdalhngcddaaDt
namespace Go.Proofs.Ytojbdalhngcddaa
set_option linter.unusedSimpArgs false
set_option linter.unusedVariables false
open Go.RowKit

set_option maxHeartbeats 1000000 in
theorem lives_any (w : World) :
    Calls Try.prog 11 #[] w fun e w' => e = .returned (.bool true) ∧ Below w.heap.size w w' := by
  have heq := @eq_dbl
  have a0 : hi (-16384) = 32766 := by decide +kernel
  have a1 : lo (-16384) = 32767 := by decide +kernel
  have a2 : hi (sat (val 16383 16383 + val 0 1) 268435455) = 16383 := by decide +kernel
  have a3 : lo (sat (val 16383 16383 + val 0 1) 268435455) = 16383 := by decide +kernel
  have a4 : outb (val 16383 16383 + val 0 1) 268435455 = true := by decide +kernel
  have a5 : hi (shv (val 0 3) (-1)) = 0 := by decide +kernel
  have a6 : lo (shv (val 0 3) (-1)) = 2 := by decide +kernel
  have a7 : sho (val 0 3) (-1) = false := by decide +kernel
  have a8 : hi (nrv (val 0 3)) = 12288 := by decide +kernel
  have a9 : lo (nrv (val 0 3)) = 0 := by decide +kernel
  have b0 : nrn (val 0 3) = 26 := by decide +kernel
  have b1 : val 1 32762 = 16379 := by decide +kernel
  go_enter Try.func11, Try.ntmps11
  go_wp2_with fail
  refine (make_in (-16384) (by omega) (by omega) _).mono ?_
  rintro _ r1 ⟨rfl, hbr1⟩
  obtain ⟨hcr1, hfr1⟩ := bcell hbr1
  have hzr1 := hbr1.size
  try simp only [World.size_alloc, World.size_setCell, World.size_drew] at hzr1
  go_wp2_with fail
  refine (add_any 16383 16383 0 1 (by omega) (by omega) (by omega) (by omega) (by omega) (by omega) (by omega) (by omega) _).mono ?_
  rintro _ r2 ⟨rfl, hbr2⟩
  obtain ⟨hcr2, hfr2⟩ := bcell hbr2
  have hzr2 := hbr2.size
  try simp only [World.size_alloc, World.size_setCell, World.size_drew] at hzr2
  have hlr2r10 : r1.heap.size < r2.heap.size := by omega
  go_wp2_with fail
  refine (shift_any 0 3 (-1) (by omega) (by omega) (by omega) (by omega) (by omega) (by omega) _).mono ?_
  rintro _ r3 ⟨rfl, hbr3⟩
  obtain ⟨hcr3, hfr3⟩ := bcell hbr3
  have hzr3 := hbr3.size
  try simp only [World.size_alloc, World.size_setCell, World.size_drew] at hzr3
  have hlr3r10 : r1.heap.size < r3.heap.size := by omega
  have hlr3r20 : r2.heap.size < r3.heap.size := by omega
  go_wp2_with fail
  refine (normal_any 0 3 (by omega) (by omega) (by omega) (by omega) (by decide +kernel) _).mono ?_
  rintro _ r4 ⟨rfl, hbr4⟩
  obtain ⟨hcr4, hfr4⟩ := bcell hbr4
  have hzr4 := hbr4.size
  try simp only [World.size_alloc, World.size_setCell, World.size_drew] at hzr4
  have hlr4r10 : r1.heap.size < r4.heap.size := by omega
  have hlr4r20 : r2.heap.size < r4.heap.size := by omega
  have hlr4r30 : r3.heap.size < r4.heap.size := by omega
  go_wp2_with fail
  refine (value_any 1 32762 (by omega) (by omega) (by omega) (by omega) _).mono ?_
  rintro _ r5 ⟨rfl, hbr5⟩
  obtain ⟨hcr5, hfr5⟩ := bcell hbr5
  have hzr5 := hbr5.size
  try simp only [World.size_alloc, World.size_setCell, World.size_drew] at hzr5
  have hlr5r10 : r1.heap.size < r5.heap.size := by omega
  have hlr5r20 : r2.heap.size < r5.heap.size := by omega
  have hlr5r30 : r3.heap.size < r5.heap.size := by omega
  have hlr5r40 : r4.heap.size < r5.heap.size := by omega
  go_wp2
  go_ret
  exact ⟨rfl, (by repeat' (first | exact Below.refl _ _ | refine bl_alloc ?_ _ | refine bl_drew ?_ | refine bl_set ?_ _ ?_ | refine bl_via (by assumption) ?_ | (simp only []; omega) | omega | (simp; omega)))⟩
end Go.Proofs.Ytojbdalhngcddaa
