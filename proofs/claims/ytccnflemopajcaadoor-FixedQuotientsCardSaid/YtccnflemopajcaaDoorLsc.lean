/- The walk of the law FixedQuotients: for every input it returns true, where the table of coefficients is as laid. -/
import Derived.Test.YtccnflemopajcaaDoorWl
import Derived.Test.YtccnflemopajcaaDoorWd
namespace Go.Proofs.YtccnflemopajcaaDoor
set_option linter.unusedSimpArgs false
set_option linter.unusedVariables false
open Go.RowKit

set_option maxHeartbeats 2000000 in
theorem quotients_law (x y z u : Int) (hx0 : 0 ≤ x) (hx1 : x < 65536) (hy0 : 0 ≤ y) (hy1 : y < 65536) (hz0 : 0 ≤ z) (hz1 : z < 65536) (hu0 : 0 ≤ u) (hu1 : u < 65536) (w : World) (hS : Sines w) :
    Calls Tryd.prog 5 #[(.agg #[.int .u16 (x), .int .u16 (y)]), (.agg #[.int .u16 (z), .int .u16 (u)])] w fun e w' => e = .returned (.bool true) ∧ Below w.heap.size w w' := by
  obtain ⟨m0, m1, o, D1, D2⟩ : ∃ (m0 m1 : Int) (o : Bool), (∀ w, Calls Tryd.prog 23 #[(.agg #[.int .u16 (x), .int .u16 (y)]), (.agg #[.int .u16 (z), .int .u16 (u)])] w fun e w' => e = .returned (.tuple #[(.agg #[.int .u16 (m0), .int .u16 (m1)]), .bool o]) ∧ Below w.heap.size w w') ∧ (∀ w, Calls Tryd.prog 24 #[(.agg #[.int .u16 (x), .int .u16 (y)]), (.agg #[.int .u16 (z), .int .u16 (u)])] w fun e w' => e = .returned (.tuple #[(.agg #[.int .u16 (m0), .int .u16 (m1)]), .bool o]) ∧ Below w.heap.size w w') :=
    ⟨_, _, _, div_any x y z u hx0 hx1 hy0 hy1 hz0 hz1 hu0 hu1, rdiv_any x y z u hx0 hx1 hy0 hy1 hz0 hz1 hu0 hu1⟩
  have heq := @eq_dbl
  go_enter Tryd.func5, Tryd.ntmps5
  go_wp2_with fail
  refine (lives16 _ (hS.on (bl_alloc (bl_alloc (Below.refl _ _) _) _))).mono ?_
  rintro _ r1 ⟨rfl, hbr1⟩
  obtain ⟨hcr1, hfr1⟩ := bcell hbr1
  have hzr1 := hbr1.size
  try simp only [World.size_alloc, World.size_setCell, World.size_drew] at hzr1
  have hlr1w0 : w.heap.size < r1.heap.size := by omega
  have hlr1w1 : w.heap.size + 1 < r1.heap.size := by omega
  go_wp2_with fail
  refine (D1 _).mono ?_
  rintro _ r2 ⟨rfl, hbr2⟩
  obtain ⟨hcr2, hfr2⟩ := bcell hbr2
  have hzr2 := hbr2.size
  try simp only [World.size_alloc, World.size_setCell, World.size_drew] at hzr2
  have hlr2w0 : w.heap.size < r2.heap.size := by omega
  have hlr2w1 : w.heap.size + 1 < r2.heap.size := by omega
  go_wp2_with fail
  refine (D2 _).mono ?_
  rintro _ r3 ⟨rfl, hbr3⟩
  obtain ⟨hcr3, hfr3⟩ := bcell hbr3
  have hzr3 := hbr3.size
  try simp only [World.size_alloc, World.size_setCell, World.size_drew] at hzr3
  have hlr3w0 : w.heap.size < r3.heap.size := by omega
  have hlr3w1 : w.heap.size + 1 < r3.heap.size := by omega
  have hlr3r20 : r2.heap.size < r3.heap.size := by omega
  go_wp2
  go_ret
  exact ⟨rfl, (by repeat' (first | (with_reducible exact Below.refl _ _) | (with_reducible refine bl_set ?_ _ ?_) | (with_reducible refine bl_alloc ?_ _) | (with_reducible refine bl_drew ?_) | (with_reducible refine bl_via (by with_reducible assumption) ?_) | (with_reducible assumption) | omega | (simp only []; omega) | (simp; omega)))⟩
end Go.Proofs.YtccnflemopajcaaDoor
