/- Contracts of the reference of layer 17 (Sum, Shift, Scale) and of layer 16 (Mul). -/
import Derived.Test.YtccnflemopajcaaDoorWa
import Derived.Test.YtccnflemopajcaaDoorFa
import Derived.Test.YtccnflemopajcaaDoorRb
namespace Go.Proofs.YtccnflemopajcaaDoor
set_option linter.unusedSimpArgs false
set_option linter.unusedVariables false
open Go.RowKit

set_option maxHeartbeats 1000000 in
theorem rmul_any (x y z u : Int) (hx0 : 0 ≤ x) (hx1 : x < 65536) (hy0 : 0 ≤ y) (hy1 : y < 65536) (hz0 : 0 ≤ z) (hz1 : z < 65536) (hu0 : 0 ≤ u) (hu1 : u < 65536) (w : World) :
    Calls Tryd.prog 15 #[(.agg #[.int .u16 (x), .int .u16 (y)]), (.agg #[.int .u16 (z), .int .u16 (u)])] w fun e w' => e = .returned (.agg #[.int .u16 (hi (mulv (val x y) (val z u))), .int .u16 (lo (mulv (val x y) (val z u)))]) ∧ Below w.heap.size w w' := by
  have k0 := val_lo x y
  have k1 := val_hi x y
  have k2 := val_lo z u
  have k3 := val_hi z u
  obtain ⟨p0, p1⟩ := mul_bd (val x y) (val z u) k0 k1 k2 k3
  obtain ⟨m0, m1⟩ := mulv_size (val x y) (val z u) k0 k1 k2 k3
  have em : rnd (val x y * val z u) 268435456 = mulv (val x y) (val z u) := rfl
  have EM := keep em
  clear em
  go_enter Tryd.func15, Tryd.ntmps15
  go_wp2_with fail
  have hecr1 := @Ext.cell
  refine wp_region_ext_tail 7 (by kernel_rfl) (by kernel_rfl) ?_
  simp only [List.take_succ_cons, List.take_zero, List.drop_succ_cons, List.drop_zero]
  repeat (first | go_big_quiet_skip | (go_big_quiet_want; go_big_quiet_op; first | go_big_quiet_on | (go_big_quiet_call ((first | fail | (go_at_call 18; exact ext_call (rvalue_any _ _ (by assumption) (by assumption) (by assumption) (by assumption) _)) | (go_at_call 22; exact ext_call (rround_any _ 268435456 (by omega) (by omega) (by omega) (by omega) _)) | (go_at_call 20; exact ext_call (rdouble_any _ (by rw [EM.out]; exact m0) (by rw [EM.out]; exact m1) _)))))))
  clear hecr1
  refine wpQuiet_nil ?_
  rintro r1 ⟨⟨_, hbr1⟩, rfl⟩
  obtain ⟨hcr1, hfr1⟩ := bcell hbr1
  have hzr1 := hbr1.size
  try simp only [World.size_alloc, World.size_setCell, World.size_drew] at hzr1
  have hlr1w0 : w.heap.size < r1.heap.size := by omega
  have hlr1w1 : w.heap.size + 1 < r1.heap.size := by omega
  have hlr1w2 : w.heap.size + 1 + 1 < r1.heap.size := by omega
  go_wp2
  refine bodyPost_ret (v := (.agg #[.int .u16 (hi (rnd (val x y * val z u) 268435456)), .int .u16 (lo (rnd (val x y * val z u) 268435456))])) (by simp [results, Tryd.results15, go_sem, *]) rfl ⟨by rw [EM.out], ?_⟩; exact (by repeat' (first | (with_reducible exact Below.refl _ _) | (with_reducible refine bl_set ?_ _ ?_) | (with_reducible refine bl_alloc ?_ _) | (with_reducible refine bl_drew ?_) | (with_reducible refine bl_via (by with_reducible assumption) ?_) | (with_reducible assumption) | omega | (simp only []; omega) | (simp; omega)))

end Go.Proofs.YtccnflemopajcaaDoor
