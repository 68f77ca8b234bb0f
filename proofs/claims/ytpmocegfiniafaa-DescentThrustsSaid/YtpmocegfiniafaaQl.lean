/- The walk of the law DescentThrusts: for every input it returns true. -/
import Derived.Test.YtpmocegfiniafaaQk
import Derived.Test.YtpmocegfiniafaaWc
import Derived.Test.YtpmocegfiniafaaWf
import Derived.Test.YtpmocegfiniafaaWa
namespace Go.Proofs.Ytpmocegfiniafaa
set_option linter.unusedSimpArgs false
set_option linter.unusedVariables false
open Go.RowKit

theorem unitV_shape (x y z : Int) : ∃ (w0 w1 w2 w3 w4 w5 : Int) (b : Bool), unitV x y z = (.tuple #[(.agg #[.int .u16 (w0), .int .u16 (w1), .int .u16 (w2), .int .u16 (w3), .int .u16 (w4), .int .u16 (w5)]), .bool b]) := by
  unfold unitV
  split
  · exact ⟨_, _, _, _, _, _, _, rfl⟩
  · exact ⟨_, _, _, _, _, _, _, rfl⟩
set_option maxHeartbeats 2000000 in
theorem thrust_facts (a0 a1 a2 a3 a4 a5 g0 g1 g2 g3 g4 g5 : Int) (ha00 : 0 ≤ a0) (ha01 : a0 < 65536) (ha10 : 0 ≤ a1) (ha11 : a1 < 65536) (ha20 : 0 ≤ a2) (ha21 : a2 < 65536) (ha30 : 0 ≤ a3) (ha31 : a3 < 65536) (ha40 : 0 ≤ a4) (ha41 : a4 < 65536) (ha50 : 0 ≤ a5) (ha51 : a5 < 65536) (hg00 : 0 ≤ g0) (hg01 : g0 < 65536) (hg10 : 0 ≤ g1) (hg11 : g1 < 65536) (hg20 : 0 ≤ g2) (hg21 : g2 < 65536) (hg30 : 0 ≤ g3) (hg31 : g3 < 65536) (hg40 : 0 ≤ g4) (hg41 : g4 < 65536) (hg50 : 0 ≤ g5) (hg51 : g5 < 65536) : ∃ (m0 m1 u0 u1 u2 u3 u4 u5 : Int) (o : Bool),
    (∀ w, Calls Try.prog 16 #[(.agg #[.int .u16 (a0), .int .u16 (a1), .int .u16 (a2), .int .u16 (a3), .int .u16 (a4), .int .u16 (a5)]), (.agg #[.int .u16 (g0), .int .u16 (g1), .int .u16 (g2), .int .u16 (g3), .int .u16 (g4), .int .u16 (g5)])] w fun e w' => e = .returned (.tuple #[(.agg #[.int .u16 (m0), .int .u16 (m1)]), (.agg #[.int .u16 (u0), .int .u16 (u1), .int .u16 (u2), .int .u16 (u3), .int .u16 (u4), .int .u16 (u5)]), .bool o]) ∧ Below w.heap.size w w') ∧
    (∀ w, Calls Try.prog 17 #[(.agg #[.int .u16 (a0), .int .u16 (a1), .int .u16 (a2), .int .u16 (a3), .int .u16 (a4), .int .u16 (a5)]), (.agg #[.int .u16 (g0), .int .u16 (g1), .int .u16 (g2), .int .u16 (g3), .int .u16 (g4), .int .u16 (g5)])] w fun e w' => e = .returned (.tuple #[(.agg #[.int .u16 (m0), .int .u16 (m1)]), (.agg #[.int .u16 (u0), .int .u16 (u1), .int .u16 (u2), .int .u16 (u3), .int .u16 (u4), .int .u16 (u5)]), .bool o]) ∧ Below w.heap.size w w') := by
  obtain ⟨l00, l01⟩ := shv_size (val g0 g1) (-4) (val_lo _ _) (val_hi _ _)
  have kl0 := hi_lo _ l00 l01
  have vl0 := val_of _ l00 l01
  have d00 := sat_lo (val a0 a1 - shv (val g0 g1) (-4)) 268435455 (by omega)
  have d01 := sat_hi (val a0 a1 - shv (val g0 g1) (-4)) 268435455 (by omega)
  have kd0 := hi_lo _ d00 d01
  have vd0 := val_of _ d00 d01
  obtain ⟨l10, l11⟩ := shv_size (val g2 g3) (-4) (val_lo _ _) (val_hi _ _)
  have kl1 := hi_lo _ l10 l11
  have vl1 := val_of _ l10 l11
  have d10 := sat_lo (val a2 a3 - shv (val g2 g3) (-4)) 268435455 (by omega)
  have d11 := sat_hi (val a2 a3 - shv (val g2 g3) (-4)) 268435455 (by omega)
  have kd1 := hi_lo _ d10 d11
  have vd1 := val_of _ d10 d11
  obtain ⟨l20, l21⟩ := shv_size (val g4 g5) (-4) (val_lo _ _) (val_hi _ _)
  have kl2 := hi_lo _ l20 l21
  have vl2 := val_of _ l20 l21
  have d20 := sat_lo (val a4 a5 - shv (val g4 g5) (-4)) 268435455 (by omega)
  have d21 := sat_hi (val a4 a5 - shv (val g4 g5) (-4)) 268435455 (by omega)
  have kd2 := hi_lo _ d20 d21
  have vd2 := val_of _ d20 d21
  obtain ⟨u0, u1, u2, u3, u4, u5, z, hu⟩ := unitV_shape (sat (val a0 a1 - shv (val g0 g1) (-4)) 268435455) (sat (val a2 a3 - shv (val g2 g3) (-4)) 268435455) (sat (val a4 a5 - shv (val g4 g5) (-4)) 268435455)
  have C1 := fun w => vshift_any g0 g1 g2 g3 g4 g5 (-4) hg00 hg01 hg10 hg11 hg20 hg21 hg30 hg31 hg40 hg41 hg50 hg51 (by omega) (by omega) w
  have C2 := fun w => vsub_any a0 a1 a2 a3 a4 a5 (hi (shv (val g0 g1) (-4))) (lo (shv (val g0 g1) (-4))) (hi (shv (val g2 g3) (-4))) (lo (shv (val g2 g3) (-4))) (hi (shv (val g4 g5) (-4))) (lo (shv (val g4 g5) (-4))) ha00 ha01 ha10 ha11 ha20 ha21 ha30 ha31 ha40 ha41 ha50 ha51 (by omega) (by omega) (by omega) (by omega) (by omega) (by omega) (by omega) (by omega) (by omega) (by omega) (by omega) (by omega) w
  simp only [vl0, vl1, vl2] at C2
  have C3 := fun w => length_any (hi (sat (val a0 a1 - shv (val g0 g1) (-4)) 268435455)) (lo (sat (val a0 a1 - shv (val g0 g1) (-4)) 268435455)) (hi (sat (val a2 a3 - shv (val g2 g3) (-4)) 268435455)) (lo (sat (val a2 a3 - shv (val g2 g3) (-4)) 268435455)) (hi (sat (val a4 a5 - shv (val g4 g5) (-4)) 268435455)) (lo (sat (val a4 a5 - shv (val g4 g5) (-4)) 268435455)) (by omega) (by omega) (by omega) (by omega) (by omega) (by omega) (by omega) (by omega) (by omega) (by omega) (by omega) (by omega) w
  simp only [vd0, vd1, vd2] at C3
  have C4 := fun w => unit_any (hi (sat (val a0 a1 - shv (val g0 g1) (-4)) 268435455)) (lo (sat (val a0 a1 - shv (val g0 g1) (-4)) 268435455)) (hi (sat (val a2 a3 - shv (val g2 g3) (-4)) 268435455)) (lo (sat (val a2 a3 - shv (val g2 g3) (-4)) 268435455)) (hi (sat (val a4 a5 - shv (val g4 g5) (-4)) 268435455)) (lo (sat (val a4 a5 - shv (val g4 g5) (-4)) 268435455)) (by omega) (by omega) (by omega) (by omega) (by omega) (by omega) (by omega) (by omega) (by omega) (by omega) (by omega) (by omega) w
  simp only [vd0, vd1, vd2, hu] at C4
  have rC1 := fun w => rshift17_any g0 g1 g2 g3 g4 g5 (-4) hg00 hg01 hg10 hg11 hg20 hg21 hg30 hg31 hg40 hg41 hg50 hg51 (by omega) w
  have rC2 := fun w => rsum_m a0 a1 a2 a3 a4 a5 (hi (shv (val g0 g1) (-4))) (lo (shv (val g0 g1) (-4))) (hi (shv (val g2 g3) (-4))) (lo (shv (val g2 g3) (-4))) (hi (shv (val g4 g5) (-4))) (lo (shv (val g4 g5) (-4))) ha00 ha01 ha10 ha11 ha20 ha21 ha30 ha31 ha40 ha41 ha50 ha51 (by omega) (by omega) (by omega) (by omega) (by omega) (by omega) (by omega) (by omega) (by omega) (by omega) (by omega) (by omega) w
  simp only [vl0, vl1, vl2] at rC2
  have rC3 := fun w => rlength_any (hi (sat (val a0 a1 - shv (val g0 g1) (-4)) 268435455)) (lo (sat (val a0 a1 - shv (val g0 g1) (-4)) 268435455)) (hi (sat (val a2 a3 - shv (val g2 g3) (-4)) 268435455)) (lo (sat (val a2 a3 - shv (val g2 g3) (-4)) 268435455)) (hi (sat (val a4 a5 - shv (val g4 g5) (-4)) 268435455)) (lo (sat (val a4 a5 - shv (val g4 g5) (-4)) 268435455)) (by omega) (by omega) (by omega) (by omega) (by omega) (by omega) (by omega) (by omega) (by omega) (by omega) (by omega) (by omega) w
  simp only [vd0, vd1, vd2] at rC3
  have rC4 := fun w => runit_any (hi (sat (val a0 a1 - shv (val g0 g1) (-4)) 268435455)) (lo (sat (val a0 a1 - shv (val g0 g1) (-4)) 268435455)) (hi (sat (val a2 a3 - shv (val g2 g3) (-4)) 268435455)) (lo (sat (val a2 a3 - shv (val g2 g3) (-4)) 268435455)) (hi (sat (val a4 a5 - shv (val g4 g5) (-4)) 268435455)) (lo (sat (val a4 a5 - shv (val g4 g5) (-4)) 268435455)) (by omega) (by omega) (by omega) (by omega) (by omega) (by omega) (by omega) (by omega) (by omega) (by omega) (by omega) (by omega) w
  simp only [vd0, vd1, vd2, hu] at rC4
  exact ⟨_, _, _, _, _, _, _, _, _, fun w => thrust_of _ _ _ _ _ _ _ _ _ _ _ _ _ _ _ _ _ _ _ _ _ _ _ _ _ _ _ _ _ _ _ _ _ _ _ _ C1 C2 C3 C4 w, fun w => rthrust_of _ _ _ _ _ _ _ _ _ _ _ _ _ _ _ _ _ _ _ _ _ _ _ _ _ _ _ _ _ _ _ _ _ _ _ _ rC1 rC2 rC3 rC4 w⟩

set_option maxHeartbeats 4000000 in
theorem thrusts_law (a0 a1 a2 a3 a4 a5 g0 g1 g2 g3 g4 g5 : Int) (ha00 : 0 ≤ a0) (ha01 : a0 < 65536) (ha10 : 0 ≤ a1) (ha11 : a1 < 65536) (ha20 : 0 ≤ a2) (ha21 : a2 < 65536) (ha30 : 0 ≤ a3) (ha31 : a3 < 65536) (ha40 : 0 ≤ a4) (ha41 : a4 < 65536) (ha50 : 0 ≤ a5) (ha51 : a5 < 65536) (hg00 : 0 ≤ g0) (hg01 : g0 < 65536) (hg10 : 0 ≤ g1) (hg11 : g1 < 65536) (hg20 : 0 ≤ g2) (hg21 : g2 < 65536) (hg30 : 0 ≤ g3) (hg31 : g3 < 65536) (hg40 : 0 ≤ g4) (hg41 : g4 < 65536) (hg50 : 0 ≤ g5) (hg51 : g5 < 65536) (w : World) :
    Calls Try.prog 5 #[(.agg #[.int .u16 (a0), .int .u16 (a1), .int .u16 (a2), .int .u16 (a3), .int .u16 (a4), .int .u16 (a5)]), (.agg #[.int .u16 (g0), .int .u16 (g1), .int .u16 (g2), .int .u16 (g3), .int .u16 (g4), .int .u16 (g5)])] w fun e w' => e = .returned (.bool true) ∧ Below w.heap.size w w' := by
  obtain ⟨m0, m1, u0, u1, u2, u3, u4, u5, o, C1, C2⟩ := thrust_facts a0 a1 a2 a3 a4 a5 g0 g1 g2 g3 g4 g5 ha00 ha01 ha10 ha11 ha20 ha21 ha30 ha31 ha40 ha41 ha50 ha51 hg00 hg01 hg10 hg11 hg20 hg21 hg30 hg31 hg40 hg41 hg50 hg51
  have heq := @eq_dbl
  have hev := @eq_vec
  go_enter Try.func5, Try.ntmps5
  go_wp2_with fail
  refine (lives35 _).mono ?_
  rintro _ r1 ⟨rfl, hbr1⟩
  obtain ⟨hcr1, hfr1⟩ := bcell hbr1
  have hzr1 := hbr1.size
  try simp only [World.size_alloc, World.size_setCell, World.size_drew] at hzr1
  have hlr1w0 : w.heap.size < r1.heap.size := by omega
  have hlr1w1 : w.heap.size + 1 < r1.heap.size := by omega
  go_wp2_with fail
  refine (C1 _).mono ?_
  rintro _ r2 ⟨rfl, hbr2⟩
  obtain ⟨hcr2, hfr2⟩ := bcell hbr2
  have hzr2 := hbr2.size
  try simp only [World.size_alloc, World.size_setCell, World.size_drew] at hzr2
  have hlr2w0 : w.heap.size < r2.heap.size := by omega
  have hlr2w1 : w.heap.size + 1 < r2.heap.size := by omega
  go_wp2_with fail
  refine (C2 _).mono ?_
  rintro _ r3 ⟨rfl, hbr3⟩
  obtain ⟨hcr3, hfr3⟩ := bcell hbr3
  have hzr3 := hbr3.size
  try simp only [World.size_alloc, World.size_setCell, World.size_drew] at hzr3
  have hlr3w0 : w.heap.size < r3.heap.size := by omega
  have hlr3w1 : w.heap.size + 1 < r3.heap.size := by omega
  have hlr3r20 : r2.heap.size < r3.heap.size := by omega
  have hlr3r21 : r2.heap.size + 1 < r3.heap.size := by omega
  have z0 : r2.heap.size < r3.heap.size + 1 := by omega
  have z1 : r2.heap.size + 1 < r3.heap.size + 1 := by omega
  go_wp2
  go_ret
  exact ⟨rfl, (by repeat' (first | (with_reducible exact Below.refl _ _) | (with_reducible refine bl_set ?_ _ ?_) | (with_reducible refine bl_alloc ?_ _) | (with_reducible refine bl_drew ?_) | (with_reducible refine bl_via (by with_reducible assumption) ?_) | (with_reducible assumption) | omega | (simp only []; omega) | (simp; omega)))⟩
end Go.Proofs.Ytpmocegfiniafaa
