/- The walk of the law DescentPhases: for every input it returns true. -/
import Derived.Test.YtpmocegfiniafaaQk
namespace Go.Proofs.Ytpmocegfiniafaa
set_option linter.unusedSimpArgs false
set_option linter.unusedVariables false
open Go.RowKit

set_option maxHeartbeats 4000000 in
theorem phases_bad (now t0 t1 z0 z1 g0 g1 g2 g3 g4 g5 : Int) (ht00 : 0 ≤ t0) (ht01 : t0 < 65536) (ht10 : 0 ≤ t1) (ht11 : t1 < 65536) (hz00 : 0 ≤ z0) (hz01 : z0 < 65536) (hz10 : 0 ≤ z1) (hz11 : z1 < 65536) (hg00 : 0 ≤ g0) (hg01 : g0 < 65536) (hg10 : 0 ≤ g1) (hg11 : g1 < 65536) (hg20 : 0 ≤ g2) (hg21 : g2 < 65536) (hg30 : 0 ≤ g3) (hg31 : g3 < 65536) (hg40 : 0 ≤ g4) (hg41 : g4 < 65536) (hg50 : 0 ≤ g5) (hg51 : g5 < 65536) (b : Bool) (d1 : decide (now < 0) = b) (d2 : b = true ∨ b = false ∧ decide (3 < now) = true) (C1 : (∀ w, Calls Try.prog 23 #[.int .i64 (now), (.agg #[.int .u16 (t0), .int .u16 (t1)]), (.agg #[.int .u16 (z0), .int .u16 (z1)]), (.agg #[.int .u16 (g0), .int .u16 (g1), .int .u16 (g2), .int .u16 (g3), .int .u16 (g4), .int .u16 (g5)])] w fun e w' => e = .returned (.tuple #[.int .i64 0, .int .i64 2]) ∧ Below w.heap.size w w')) (w : World) :
    Calls Try.prog 7 #[.int .i64 (now), (.agg #[.int .u16 (t0), .int .u16 (t1)]), (.agg #[.int .u16 (z0), .int .u16 (z1)]), (.agg #[.int .u16 (g0), .int .u16 (g1), .int .u16 (g2), .int .u16 (g3), .int .u16 (g4), .int .u16 (g5)])] w fun e w' => e = .returned (.bool true) ∧ Below w.heap.size w w' := by
  rcases d2 with e | ⟨e, d2⟩
  all_goals
    subst e
    go_enter Try.func7, Try.ntmps7
    go_wp2_with fail
    refine (lives35 _).mono ?_
    rintro _ r1 ⟨rfl, hbr1⟩
    obtain ⟨hcr1, hfr1⟩ := bcell hbr1
    have hzr1 := hbr1.size
    try simp only [World.size_alloc, World.size_setCell, World.size_drew] at hzr1
    have hlr1w0 : w.heap.size < r1.heap.size := by omega
    have hlr1w1 : w.heap.size + 1 < r1.heap.size := by omega
    have hlr1w2 : w.heap.size + 1 + 1 < r1.heap.size := by omega
    go_wp2_with fail
    refine (C1 _).mono ?_
    rintro _ r2 ⟨rfl, hbr2⟩
    obtain ⟨hcr2, hfr2⟩ := bcell hbr2
    have hzr2 := hbr2.size
    try simp only [World.size_alloc, World.size_setCell, World.size_drew] at hzr2
    have hlr2w0 : w.heap.size < r2.heap.size := by omega
    have hlr2w1 : w.heap.size + 1 < r2.heap.size := by omega
    have hlr2w2 : w.heap.size + 1 + 1 < r2.heap.size := by omega
    go_wp2
    go_ret
    exact ⟨rfl, (by repeat' (first | (with_reducible exact Below.refl _ _) | (with_reducible refine bl_set ?_ _ ?_) | (with_reducible refine bl_alloc ?_ _) | (with_reducible refine bl_drew ?_) | (with_reducible refine bl_via (by with_reducible assumption) ?_) | (with_reducible assumption) | omega | (simp only []; omega) | (simp; omega)))⟩
set_option maxHeartbeats 4000000 in
theorem phases_good (now t0 t1 z0 z1 g0 g1 g2 g3 g4 g5 : Int) (ht00 : 0 ≤ t0) (ht01 : t0 < 65536) (ht10 : 0 ≤ t1) (ht11 : t1 < 65536) (hz00 : 0 ≤ z0) (hz01 : z0 < 65536) (hz10 : 0 ≤ z1) (hz11 : z1 < 65536) (hg00 : 0 ≤ g0) (hg01 : g0 < 65536) (hg10 : 0 ≤ g1) (hg11 : g1 < 65536) (hg20 : 0 ≤ g2) (hg21 : g2 < 65536) (hg30 : 0 ≤ g3) (hg31 : g3 < 65536) (hg40 : 0 ≤ g4) (hg41 : g4 < 65536) (hg50 : 0 ≤ g5) (hg51 : g5 < 65536) (n : Int) (d1 : decide (now < 0) = false) (d2 : decide (3 < now) = false) (d3 : decide (now ≤ n) = true) (C1 : (∀ w, Calls Try.prog 23 #[.int .i64 (now), (.agg #[.int .u16 (t0), .int .u16 (t1)]), (.agg #[.int .u16 (z0), .int .u16 (z1)]), (.agg #[.int .u16 (g0), .int .u16 (g1), .int .u16 (g2), .int .u16 (g3), .int .u16 (g4), .int .u16 (g5)])] w fun e w' => e = .returned (.tuple #[.int .i64 n, .int .i64 0]) ∧ Below w.heap.size w w')) (C2 : (∀ w, Calls Try.prog 23 #[.int .i64 (n), (.agg #[.int .u16 (t0), .int .u16 (t1)]), (.agg #[.int .u16 (z0), .int .u16 (z1)]), (.agg #[.int .u16 (g0), .int .u16 (g1), .int .u16 (g2), .int .u16 (g3), .int .u16 (g4), .int .u16 (g5)])] w fun e w' => e = .returned (.tuple #[.int .i64 n, .int .i64 0]) ∧ Below w.heap.size w w')) (C3 : (∀ w, Calls Try.prog 24 #[.int .i64 (now), (.agg #[.int .u16 (t0), .int .u16 (t1)]), (.agg #[.int .u16 (z0), .int .u16 (z1)]), (.agg #[.int .u16 (g0), .int .u16 (g1), .int .u16 (g2), .int .u16 (g3), .int .u16 (g4), .int .u16 (g5)])] w fun e w' => e = .returned (.int .i64 n) ∧ Below w.heap.size w w')) (w : World) :
    Calls Try.prog 7 #[.int .i64 (now), (.agg #[.int .u16 (t0), .int .u16 (t1)]), (.agg #[.int .u16 (z0), .int .u16 (z1)]), (.agg #[.int .u16 (g0), .int .u16 (g1), .int .u16 (g2), .int .u16 (g3), .int .u16 (g4), .int .u16 (g5)])] w fun e w' => e = .returned (.bool true) ∧ Below w.heap.size w w' := by
  go_enter Try.func7, Try.ntmps7
  go_wp2_with fail
  refine (lives35 _).mono ?_
  rintro _ r1 ⟨rfl, hbr1⟩
  obtain ⟨hcr1, hfr1⟩ := bcell hbr1
  have hzr1 := hbr1.size
  try simp only [World.size_alloc, World.size_setCell, World.size_drew] at hzr1
  have hlr1w0 : w.heap.size < r1.heap.size := by omega
  have hlr1w1 : w.heap.size + 1 < r1.heap.size := by omega
  have hlr1w2 : w.heap.size + 1 + 1 < r1.heap.size := by omega
  go_wp2_with fail
  refine (C1 _).mono ?_
  rintro _ r2 ⟨rfl, hbr2⟩
  obtain ⟨hcr2, hfr2⟩ := bcell hbr2
  have hzr2 := hbr2.size
  try simp only [World.size_alloc, World.size_setCell, World.size_drew] at hzr2
  have hlr2w0 : w.heap.size < r2.heap.size := by omega
  have hlr2w1 : w.heap.size + 1 < r2.heap.size := by omega
  have hlr2w2 : w.heap.size + 1 + 1 < r2.heap.size := by omega
  go_wp2_with fail
  refine (C2 _).mono ?_
  rintro _ r3 ⟨rfl, hbr3⟩
  obtain ⟨hcr3, hfr3⟩ := bcell hbr3
  have hzr3 := hbr3.size
  try simp only [World.size_alloc, World.size_setCell, World.size_drew] at hzr3
  have hlr3w0 : w.heap.size < r3.heap.size := by omega
  have hlr3w1 : w.heap.size + 1 < r3.heap.size := by omega
  have hlr3w2 : w.heap.size + 1 + 1 < r3.heap.size := by omega
  go_wp2_with fail
  refine (C3 _).mono ?_
  rintro _ r4 ⟨rfl, hbr4⟩
  obtain ⟨hcr4, hfr4⟩ := bcell hbr4
  have hzr4 := hbr4.size
  try simp only [World.size_alloc, World.size_setCell, World.size_drew] at hzr4
  have hlr4w0 : w.heap.size < r4.heap.size := by omega
  have hlr4w1 : w.heap.size + 1 < r4.heap.size := by omega
  have hlr4w2 : w.heap.size + 1 + 1 < r4.heap.size := by omega
  go_wp2
  go_ret
  exact ⟨rfl, (by repeat' (first | (with_reducible exact Below.refl _ _) | (with_reducible refine bl_set ?_ _ ?_) | (with_reducible refine bl_alloc ?_ _) | (with_reducible refine bl_drew ?_) | (with_reducible refine bl_via (by with_reducible assumption) ?_) | (with_reducible assumption) | omega | (simp only []; omega) | (simp; omega)))⟩
theorem phases_law (now t0 t1 z0 z1 g0 g1 g2 g3 g4 g5 : Int) (ht00 : 0 ≤ t0) (ht01 : t0 < 65536) (ht10 : 0 ≤ t1) (ht11 : t1 < 65536) (hz00 : 0 ≤ z0) (hz01 : z0 < 65536) (hz10 : 0 ≤ z1) (hz11 : z1 < 65536) (hg00 : 0 ≤ g0) (hg01 : g0 < 65536) (hg10 : 0 ≤ g1) (hg11 : g1 < 65536) (hg20 : 0 ≤ g2) (hg21 : g2 < 65536) (hg30 : 0 ≤ g3) (hg31 : g3 < 65536) (hg40 : 0 ≤ g4) (hg41 : g4 < 65536) (hg50 : 0 ≤ g5) (hg51 : g5 < 65536) (w : World) :
    Calls Try.prog 7 #[.int .i64 (now), (.agg #[.int .u16 (t0), .int .u16 (t1)]), (.agg #[.int .u16 (z0), .int .u16 (z1)]), (.agg #[.int .u16 (g0), .int .u16 (g1), .int .u16 (g2), .int .u16 (g3), .int .u16 (g4), .int .u16 (g5)])] w fun e w' => e = .returned (.bool true) ∧ Below w.heap.size w w' := by
  by_cases h : now < 0 ∨ 3 < now
  · refine phases_bad now t0 t1 z0 z1 g0 g1 g2 g3 g4 g5 ht00 ht01 ht10 ht11 hz00 hz01 hz10 hz11 hg00 hg01 hg10 hg11 hg20 hg21 hg30 hg31 hg40 hg41 hg50 hg51 _ rfl ?_ (phase_bad now t0 t1 z0 z1 g0 g1 g2 g3 g4 g5 ht00 ht01 ht10 ht11 hz00 hz01 hz10 hz11 hg00 hg01 hg10 hg11 hg20 hg21 hg30 hg31 hg40 hg41 hg50 hg51 h) w
    rcases h with h | h
    · exact .inl (decide_eq_true h)
    · by_cases g : now < 0
      · exact .inl (decide_eq_true g)
      · exact .inr ⟨decide_eq_false g, decide_eq_true h⟩
  · obtain ⟨e, i1, i2⟩ := ph_idem now (decide (val t0 t1 ≤ val g0 g1)) (decide (val z0 z1 ≤ val g2 g3)) (decide (val z0 z1 ≤ val g4 g5)) (by omega) (by omega)
    have C2 := fun w => phase_any (ph now (decide (val t0 t1 ≤ val g0 g1)) (decide (val z0 z1 ≤ val g2 g3)) (decide (val z0 z1 ≤ val g4 g5))) t0 t1 z0 z1 g0 g1 g2 g3 g4 g5 ht00 ht01 ht10 ht11 hz00 hz01 hz10 hz11 hg00 hg01 hg10 hg11 hg20 hg21 hg30 hg31 hg40 hg41 hg50 hg51 (by omega) (by omega) w
    simp only [e] at C2
    exact phases_good now t0 t1 z0 z1 g0 g1 g2 g3 g4 g5 ht00 ht01 ht10 ht11 hz00 hz01 hz10 hz11 hg00 hg01 hg10 hg11 hg20 hg21 hg30 hg31 hg40 hg41 hg50 hg51 _ (decide_eq_false (by omega)) (decide_eq_false (by omega)) (decide_eq_true i1) (fun w => phase_any now t0 t1 z0 z1 g0 g1 g2 g3 g4 g5 ht00 ht01 ht10 ht11 hz00 hz01 hz10 hz11 hg00 hg01 hg10 hg11 hg20 hg21 hg30 hg31 hg40 hg41 hg50 hg51 (by omega) (by omega) w) C2 (fun w => rphase_any now t0 t1 z0 z1 g0 g1 g2 g3 g4 g5 ht00 ht01 ht10 ht11 hz00 hz01 hz10 hz11 hg00 hg01 hg10 hg11 hg20 hg21 hg30 hg31 hg40 hg41 hg50 hg51 (by omega) (by omega) w) w
end Go.Proofs.Ytpmocegfiniafaa
