/- The walk of the law FixedProducts: for every input it returns true, where the table of coefficients is as laid. -/
import Derived.Test.YtccnflemopajcaaDoorWl
import Derived.Test.YtccnflemopajcaaDoorWc
namespace Go.Proofs.YtccnflemopajcaaDoor
set_option linter.unusedSimpArgs false
set_option linter.unusedVariables false
open Go.RowKit

set_option maxHeartbeats 2000000 in
theorem products_law (x y z u : Int) (hx0 : 0 ≤ x) (hx1 : x < 65536) (hy0 : 0 ≤ y) (hy1 : y < 65536) (hz0 : 0 ≤ z) (hz1 : z < 65536) (hu0 : 0 ≤ u) (hu1 : u < 65536) (w : World) (hS : Sines w) :
    Calls Tryd.prog 3 #[(.agg #[.int .u16 (x), .int .u16 (y)]), (.agg #[.int .u16 (z), .int .u16 (u)])] w fun e w' => e = .returned (.bool true) ∧ Below w.heap.size w w' := by
  obtain ⟨m0, m1, t0, t1, t2, D1, D2, D3, D4⟩ : ∃ m0 m1 t0 t1 t2 : Int, (∀ w, Calls Tryd.prog 14 #[(.agg #[.int .u16 (x), .int .u16 (y)]), (.agg #[.int .u16 (z), .int .u16 (u)])] w fun e w' => e = .returned (.agg #[.int .u16 (m0), .int .u16 (m1)]) ∧ Below w.heap.size w w') ∧ (∀ w, Calls Tryd.prog 15 #[(.agg #[.int .u16 (x), .int .u16 (y)]), (.agg #[.int .u16 (z), .int .u16 (u)])] w fun e w' => e = .returned (.agg #[.int .u16 (m0), .int .u16 (m1)]) ∧ Below w.heap.size w w') ∧ (∀ w, Calls Tryd.prog 16 #[(.agg #[.int .u16 (x), .int .u16 (y)]), (.agg #[.int .u16 (z), .int .u16 (u)])] w fun e w' => e = .returned (.agg #[.int .u16 (t0), .int .u16 (t1), .int .u16 (t2)]) ∧ Below w.heap.size w w') ∧ (∀ w, Calls Tryd.prog 17 #[(.agg #[.int .u16 (x), .int .u16 (y)]), (.agg #[.int .u16 (z), .int .u16 (u)])] w fun e w' => e = .returned (.agg #[.int .u16 (t0), .int .u16 (t1), .int .u16 (t2)]) ∧ Below w.heap.size w w') :=
    ⟨_, _, _, _, _, mul_any x y z u hx0 hx1 hy0 hy1 hz0 hz1 hu0 hu1, rmul_any x y z u hx0 hx1 hy0 hy1 hz0 hz1 hu0 hu1, multri_any x y z u hx0 hx1 hy0 hy1 hz0 hz1 hu0 hu1, rmultri_any x y z u hx0 hx1 hy0 hy1 hz0 hz1 hu0 hu1⟩
  have heq := @eq_dbl
  have het := @eq_tri
  go_enter Tryd.func3, Tryd.ntmps3
  go_wp2_with fail
  have hecr1 := @Ext.cell
  refine wp_region_ext (by kernel_rfl) (by kernel_rfl) ?_
  repeat (first | go_big_quiet_skip | (go_big_quiet_want; go_big_quiet_op; first | go_big_quiet_on | (go_big_quiet_call ((first | fail | (go_at_call 13; exact ext_call (lives16 _ ((hS.on (bl_alloc (bl_alloc (Below.refl _ _) _) _)).on (Ext.h _)))) | (go_at_call 14; exact ext_call (D1 _)) | (go_at_call 15; exact ext_call (D2 _)) | (go_at_call 16; exact ext_call (D3 _)) | (go_at_call 17; exact ext_call (D4 _)))))))
  clear hecr1
  refine wpQuiet_nil ?_
  rintro r1 ⟨⟨_, hbr1⟩, rfl⟩
  obtain ⟨hcr1, hfr1⟩ := bcell hbr1
  have hzr1 := hbr1.size
  try simp only [World.size_alloc, World.size_setCell, World.size_drew] at hzr1
  have hlr1w0 : w.heap.size < r1.heap.size := by omega
  have hlr1w1 : w.heap.size + 1 < r1.heap.size := by omega
  go_wp2
  go_ret
  exact ⟨rfl, (by repeat' (first | (with_reducible exact Below.refl _ _) | (with_reducible refine bl_set ?_ _ ?_) | (with_reducible refine bl_alloc ?_ _) | (with_reducible refine bl_drew ?_) | (with_reducible refine bl_via (by with_reducible assumption) ?_) | (with_reducible assumption) | omega | (simp only []; omega) | (simp; omega)))⟩
end Go.Proofs.YtccnflemopajcaaDoor
