/- Contracts of Thrust, of package descent and of its reference, over this translation: what they return, given what the functions of vectors return. -/
import Derived.Test.YtpmocegfiniafaaKd
import Derived.Test.YtpmocegfiniafaaKg
import Derived.Test.YtpmocegfiniafaaVg
import Derived.Test.YtpmocegfiniafaaDt
import Derived.RegionTactic
import Derived.BigRegion
namespace Go.Proofs.Ytpmocegfiniafaa
set_option linter.unusedSimpArgs false
set_option linter.unusedVariables false
open Go.RowKit

set_option maxHeartbeats 4000000 in
theorem thrust_of (a0 a1 a2 a3 a4 a5 g0 g1 g2 g3 g4 g5 l0 l1 l2 l3 l4 l5 d0 d1 d2 d3 d4 d5 u0 u1 u2 u3 u4 u5 m0 m1 : Int) (o0 x y z : Bool)
    (C1 : (∀ w, Calls Try.prog 34 #[(.agg #[.int .u16 (g0), .int .u16 (g1), .int .u16 (g2), .int .u16 (g3), .int .u16 (g4), .int .u16 (g5)]), .int .i64 (-4)] w fun e w' => e = .returned (.tuple #[(.agg #[.int .u16 (l0), .int .u16 (l1), .int .u16 (l2), .int .u16 (l3), .int .u16 (l4), .int .u16 (l5)]), .bool o0]) ∧ Below w.heap.size w w'))
    (C2 : (∀ w, Calls Try.prog 32 #[(.agg #[.int .u16 (a0), .int .u16 (a1), .int .u16 (a2), .int .u16 (a3), .int .u16 (a4), .int .u16 (a5)]), (.agg #[.int .u16 (l0), .int .u16 (l1), .int .u16 (l2), .int .u16 (l3), .int .u16 (l4), .int .u16 (l5)])] w fun e w' => e = .returned (.tuple #[(.agg #[.int .u16 (d0), .int .u16 (d1), .int .u16 (d2), .int .u16 (d3), .int .u16 (d4), .int .u16 (d5)]), .bool x]) ∧ Below w.heap.size w w'))
    (C3 : (∀ w, Calls Try.prog 41 #[(.agg #[.int .u16 (d0), .int .u16 (d1), .int .u16 (d2), .int .u16 (d3), .int .u16 (d4), .int .u16 (d5)])] w fun e w' => e = .returned (.tuple #[(.agg #[.int .u16 (m0), .int .u16 (m1)]), .bool y]) ∧ Below w.heap.size w w'))
    (C4 : (∀ w, Calls Try.prog 42 #[(.agg #[.int .u16 (d0), .int .u16 (d1), .int .u16 (d2), .int .u16 (d3), .int .u16 (d4), .int .u16 (d5)])] w fun e w' => e = .returned (.tuple #[(.agg #[.int .u16 (u0), .int .u16 (u1), .int .u16 (u2), .int .u16 (u3), .int .u16 (u4), .int .u16 (u5)]), .bool z]) ∧ Below w.heap.size w w')) (w : World) :
    Calls Try.prog 16 #[(.agg #[.int .u16 (a0), .int .u16 (a1), .int .u16 (a2), .int .u16 (a3), .int .u16 (a4), .int .u16 (a5)]), (.agg #[.int .u16 (g0), .int .u16 (g1), .int .u16 (g2), .int .u16 (g3), .int .u16 (g4), .int .u16 (g5)])] w fun e w' => e = .returned (.tuple #[(.agg #[.int .u16 (m0), .int .u16 (m1)]), (.agg #[.int .u16 (u0), .int .u16 (u1), .int .u16 (u2), .int .u16 (u3), .int .u16 (u4), .int .u16 (u5)]), .bool (x || y || z)]) ∧ Below w.heap.size w w' := by
  cases x <;> cases y
  all_goals
    skip
    go_enter Try.func16, Try.ntmps16
    go_wp2_with fail
    refine (C1 _).mono ?_
    rintro _ r1 ⟨rfl, hbr1⟩
    obtain ⟨hcr1, hfr1⟩ := bcell hbr1
    have hzr1 := hbr1.size
    try simp only [World.size_alloc, World.size_setCell, World.size_drew] at hzr1
    have hlr1w0 : w.heap.size < r1.heap.size := by omega
    have hlr1w1 : w.heap.size + 1 < r1.heap.size := by omega
    have hlr1w2 : w.heap.size + 1 + 1 < r1.heap.size := by omega
    have hlr1w3 : w.heap.size + 1 + 1 + 1 < r1.heap.size := by omega
    go_wp2_with fail
    refine (C2 _).mono ?_
    rintro _ r2 ⟨rfl, hbr2⟩
    obtain ⟨hcr2, hfr2⟩ := bcell hbr2
    have hzr2 := hbr2.size
    try simp only [World.size_alloc, World.size_setCell, World.size_drew] at hzr2
    have hlr2w0 : w.heap.size < r2.heap.size := by omega
    have hlr2w1 : w.heap.size + 1 < r2.heap.size := by omega
    have hlr2w2 : w.heap.size + 1 + 1 < r2.heap.size := by omega
    have hlr2w3 : w.heap.size + 1 + 1 + 1 < r2.heap.size := by omega
    have hlr2r10 : r1.heap.size < r2.heap.size := by omega
    go_wp2_with fail
    refine (C3 _).mono ?_
    rintro _ r3 ⟨rfl, hbr3⟩
    obtain ⟨hcr3, hfr3⟩ := bcell hbr3
    have hzr3 := hbr3.size
    try simp only [World.size_alloc, World.size_setCell, World.size_drew] at hzr3
    have hlr3w0 : w.heap.size < r3.heap.size := by omega
    have hlr3w1 : w.heap.size + 1 < r3.heap.size := by omega
    have hlr3w2 : w.heap.size + 1 + 1 < r3.heap.size := by omega
    have hlr3w3 : w.heap.size + 1 + 1 + 1 < r3.heap.size := by omega
    have hlr3r10 : r1.heap.size < r3.heap.size := by omega
    have hlr3r20 : r2.heap.size < r3.heap.size := by omega
    go_wp2_with fail
    refine (C4 _).mono ?_
    rintro _ r4 ⟨rfl, hbr4⟩
    obtain ⟨hcr4, hfr4⟩ := bcell hbr4
    have hzr4 := hbr4.size
    try simp only [World.size_alloc, World.size_setCell, World.size_drew] at hzr4
    have hlr4w0 : w.heap.size < r4.heap.size := by omega
    have hlr4w1 : w.heap.size + 1 < r4.heap.size := by omega
    have hlr4w2 : w.heap.size + 1 + 1 < r4.heap.size := by omega
    have hlr4w3 : w.heap.size + 1 + 1 + 1 < r4.heap.size := by omega
    have hlr4r10 : r1.heap.size < r4.heap.size := by omega
    have hlr4r20 : r2.heap.size < r4.heap.size := by omega
    have hlr4r30 : r3.heap.size < r4.heap.size := by omega
    go_wp2_with fail
    go_region
    all_goals (try go_wp2)
    all_goals
      skip
      refine bodyPost_ret (v := (.tuple #[(.agg #[.int .u16 (m0), .int .u16 (m1)]), (.agg #[.int .u16 (u0), .int .u16 (u1), .int .u16 (u2), .int .u16 (u3), .int .u16 (u4), .int .u16 (u5)]), .bool _])) (by simp [results, Try.results16, go_sem, *]) rfl ⟨rfl, ?_⟩; exact (by repeat' (first | (with_reducible exact Below.refl _ _) | (with_reducible refine bl_set ?_ _ ?_) | (with_reducible refine bl_alloc ?_ _) | (with_reducible refine bl_drew ?_) | (with_reducible refine bl_via (by with_reducible assumption) ?_) | (with_reducible assumption) | omega | (simp only []; omega) | (simp; omega)))
end Go.Proofs.Ytpmocegfiniafaa
