/- Contracts of the sine of package fixed over this translation: sine, Sin, Cos; the table holds its coefficients. -/
import Derived.Test.YtbbhppjamighdaaDoorPs
import Derived.Test.YtbbhppjamighdaaDoorFa
namespace Go.Proofs.YtbbhppjamighdaaDoor
set_option linter.unusedSimpArgs false
set_option linter.unusedVariables false
open Go.RowKit

theorem i64_low28 (n : Int) : bits .and .i64 n 268435455 = n % 268435456 := by
  have h : (BitVec.ofInt 64 268435455).toNat = 2 ^ 28 - 1 := by decide
  have key : (BitVec.ofInt 64 n &&& BitVec.ofInt 64 268435455).toNat = (n % ((2 ^ 64 : Nat) : Int)).toNat % 2 ^ 28 := by
    rw [BitVec.toNat_and, BitVec.toNat_ofInt, h, Nat.and_two_pow_sub_one_eq_mod]
  show IntKind.i64.wrap ((BitVec.ofInt 64 n &&& BitVec.ofInt 64 268435455).toNat : Nat) = n % 268435456
  rw [key, IntKind.wrap_i64]
  omega

/-- What the walk of the sine knows of each step. -/
theorem sine_facts (u : Int) (h0 : -67108864 ≤ u) (h1 : u ≤ 67108864) : ∃ Z g1 g2 g3 g4 g5 g6 s : Int, (0 ≤ 4 * u * (4 * u) ∧ 4 * u * (4 * u) ≤ 72057594037927936) ∧ rnd (4 * u * (4 * u)) 268435456 = Z ∧
    -483 + rnd (Z * 8) 268435456 = g1 ∧ 21534 + rnd (Z * g1) 268435456 = g2 ∧ -628374 + rnd (Z * g2) 268435456 = g3 ∧ 10696163 + rnd (Z * g3) 268435456 = g4 ∧ -86699834 + rnd (Z * g4) 268435456 = g5 ∧ 210828714 + rnd (Z * g5) 268435456 = g6 ∧
    (-82913166345142272 ≤ Z * 8 ∧ Z * 8 ≤ 82913166345142272) ∧ (-82913166345142272 ≤ Z * g1 ∧ Z * g1 ≤ 82913166345142272) ∧ (-82913166345142272 ≤ Z * g2 ∧ Z * g2 ≤ 82913166345142272) ∧ (-82913166345142272 ≤ Z * g3 ∧ Z * g3 ≤ 82913166345142272) ∧ (-82913166345142272 ≤ Z * g4 ∧ Z * g4 ≤ 82913166345142272) ∧ (-82913166345142272 ≤ Z * g5 ∧ Z * g5 ≤ 82913166345142272) ∧
    (-1000000000 ≤ rnd (Z * 8) 268435456 ∧ rnd (Z * 8) 268435456 ≤ 1000000000) ∧ (-1000000000 ≤ rnd (Z * g1) 268435456 ∧ rnd (Z * g1) 268435456 ≤ 1000000000) ∧ (-1000000000 ≤ rnd (Z * g2) 268435456 ∧ rnd (Z * g2) 268435456 ≤ 1000000000) ∧ (-1000000000 ≤ rnd (Z * g3) 268435456 ∧ rnd (Z * g3) 268435456 ≤ 1000000000) ∧ (-1000000000 ≤ rnd (Z * g4) 268435456 ∧ rnd (Z * g4) 268435456 ≤ 1000000000) ∧ (-1000000000 ≤ rnd (Z * g5) 268435456 ∧ rnd (Z * g5) 268435456 ≤ 1000000000) ∧
    (-56593910747136000 ≤ 4 * u * g6 ∧ 4 * u * g6 ≤ 56593910747136000) ∧ rnd (4 * u * g6) 268435456 = s ∧ (-210828714 ≤ s ∧ s ≤ 210828714) ∧ s = sinq u := by
  obtain ⟨a, z0, z1⟩ := sz_bd u h0 h1
  obtain ⟨⟨p1, _⟩, ⟨p2, _⟩, ⟨p3, _⟩, ⟨p4, _⟩, ⟨p5, _⟩, ⟨p6, _⟩⟩ := sh_bd (sz u) z0 z1
  obtain ⟨b, c⟩ := sin_bd u h0 h1
  refine ⟨sz u, sh1 (sz u), sh2 (sz u), sh3 (sz u), sh4 (sz u), sh5 (sz u), sh6 (sz u), sinq u, a, rfl, rfl, rfl, rfl, rfl, rfl, rfl, by omega, by omega, by omega, by omega, by omega, by omega, ?_, ?_, ?_, ?_, ?_, ?_, b, rfl, c, rfl⟩
  · have := (sh_bd (sz u) z0 z1).1.2; unfold sh1 at this; omega
  · have := (sh_bd (sz u) z0 z1).2.1.2; unfold sh2 at this; omega
  · have := (sh_bd (sz u) z0 z1).2.2.1.2; unfold sh3 at this; omega
  · have := (sh_bd (sz u) z0 z1).2.2.2.1.2; unfold sh4 at this; omega
  · have := (sh_bd (sz u) z0 z1).2.2.2.2.1.2; unfold sh5 at this; omega
  · have := (sh_bd (sz u) z0 z1).2.2.2.2.2.2; unfold sh6 at this; omega

/-- The table of coefficients, as it lies in memory. -/
def Sines (w : World) : Prop := w.cell? ⟨0, 0, none⟩ = some (.int .i64 8) ∧ w.cell? ⟨0, 1, none⟩ = some (.int .i64 (-483)) ∧ w.cell? ⟨0, 2, none⟩ = some (.int .i64 21534) ∧ w.cell? ⟨0, 3, none⟩ = some (.int .i64 (-628374)) ∧ w.cell? ⟨0, 4, none⟩ = some (.int .i64 10696163) ∧ w.cell? ⟨0, 5, none⟩ = some (.int .i64 (-86699834)) ∧ w.cell? ⟨0, 6, none⟩ = some (.int .i64 210828714) ∧ 0 < w.heap.size
theorem Sines.on {w w' : World} (h : Sines w) (hb : Below w.heap.size w w') : Sines w' := by
  obtain ⟨h0, h1, h2, h3, h4, h5, h6, h7⟩ := h
  exact ⟨(hb.cell (p := ⟨0, 0, none⟩) h7).trans h0, (hb.cell (p := ⟨0, 1, none⟩) h7).trans h1, (hb.cell (p := ⟨0, 2, none⟩) h7).trans h2, (hb.cell (p := ⟨0, 3, none⟩) h7).trans h3, (hb.cell (p := ⟨0, 4, none⟩) h7).trans h4, (hb.cell (p := ⟨0, 5, none⟩) h7).trans h5, (hb.cell (p := ⟨0, 6, none⟩) h7).trans h6, Nat.lt_of_lt_of_le h7 hb.size⟩

set_option maxRecDepth 100000 in
set_option maxHeartbeats 2000000 in
theorem sine_0 (v : Int) (v0 : -1073741824 ≤ v) (v1 : v ≤ 1073741824) (c1 : ¬ 134217728 ≤ v % 268435456) (c2 : ¬ 67108864 < v % 268435456) (w : World) (hS : Sines w) :
    Calls Tryd.prog 73 #[.int .i64 v] w fun e w' => e = .returned (.agg #[.int .u16 (hi (sinq (v % 268435456))), .int .u16 (lo (sinq (v % 268435456)))]) ∧ Below w.heap.size w w' := by
  have m0 := Int.emod_nonneg v (b := 268435456) (by omega)
  have m1 := Int.emod_lt_of_pos v (b := 268435456) (by omega)
  obtain ⟨Z, g1, g2, g3, g4, g5, g6, s, ⟨y0, y1⟩, eZ, e1, e2, e3, e4, e5, e6, ⟨pa1, pb1⟩, ⟨pa2, pb2⟩, ⟨pa3, pb3⟩, ⟨pa4, pb4⟩, ⟨pa5, pb5⟩, ⟨pa6, pb6⟩, ⟨ra1, rb1⟩, ⟨ra2, rb2⟩, ⟨ra3, rb3⟩, ⟨ra4, rb4⟩, ⟨ra5, rb5⟩, ⟨ra6, rb6⟩, ⟨ya, yb⟩, es, ⟨s0, s1⟩, hs⟩ := sine_facts (v % 268435456) (by omega) (by omega)
  rw [← hs]; clear hs
  have hl := i64_low28 v
  obtain ⟨t0, t1, t2, t3, t4, t5, t6, t7⟩ := hS
  go_enter Tryd.func73, Tryd.ntmps73
  go_wp2_with fail
  refine (fquot_any (4 * (v % 268435456) * (4 * (v % 268435456))) 268435456 (by omega) (by omega) (by omega) (by omega) _).mono ?_
  rintro _ r1 ⟨rfl, hbr1⟩
  obtain ⟨hcr1, hfr1⟩ := bcell hbr1
  have hzr1 := hbr1.size
  try simp only [World.size_alloc, World.size_setCell, World.size_drew] at hzr1
  have hlr1w0 : w.heap.size < r1.heap.size := by omega
  have k1_0 : r1.cell? ⟨0, 0, none⟩ = some (.int .i64 8) := (hcr1 _ _ (by (try simp only [World.size_alloc, World.size_setCell]); omega)).trans ((World.cell?_alloc_lt _ _ _ (by dsimp only; omega)).trans t0)
  have k1_1 : r1.cell? ⟨0, 1, none⟩ = some (.int .i64 (-483)) := (hcr1 _ _ (by (try simp only [World.size_alloc, World.size_setCell]); omega)).trans ((World.cell?_alloc_lt _ _ _ (by dsimp only; omega)).trans t1)
  have k1_2 : r1.cell? ⟨0, 2, none⟩ = some (.int .i64 21534) := (hcr1 _ _ (by (try simp only [World.size_alloc, World.size_setCell]); omega)).trans ((World.cell?_alloc_lt _ _ _ (by dsimp only; omega)).trans t2)
  have k1_3 : r1.cell? ⟨0, 3, none⟩ = some (.int .i64 (-628374)) := (hcr1 _ _ (by (try simp only [World.size_alloc, World.size_setCell]); omega)).trans ((World.cell?_alloc_lt _ _ _ (by dsimp only; omega)).trans t3)
  have k1_4 : r1.cell? ⟨0, 4, none⟩ = some (.int .i64 10696163) := (hcr1 _ _ (by (try simp only [World.size_alloc, World.size_setCell]); omega)).trans ((World.cell?_alloc_lt _ _ _ (by dsimp only; omega)).trans t4)
  have k1_5 : r1.cell? ⟨0, 5, none⟩ = some (.int .i64 (-86699834)) := (hcr1 _ _ (by (try simp only [World.size_alloc, World.size_setCell]); omega)).trans ((World.cell?_alloc_lt _ _ _ (by dsimp only; omega)).trans t5)
  have k1_6 : r1.cell? ⟨0, 6, none⟩ = some (.int .i64 210828714) := (hcr1 _ _ (by (try simp only [World.size_alloc, World.size_setCell]); omega)).trans ((World.cell?_alloc_lt _ _ _ (by dsimp only; omega)).trans t6)
  have z1 : 0 < r1.heap.size := by omega
  go_wp2_with fail
  refine wp_loop_rounds 7 ?_
  rw [rounds_succ]
  go_wp2_with fail
  have hecr2 := @Ext.cell
  refine wp_region_ext (by kernel_rfl) (by kernel_rfl) ?_
  repeat (first | go_big_quiet_skip | (go_big_quiet_want; go_big_quiet_op; first | go_big_quiet_on | (go_big_quiet_call ((first | fail | (go_at_call 63; exact ext_call (fquot_any _ _ (by omega) (by omega) (by omega) (by omega) _)))))))
  clear hecr2
  refine wpQuiet_nil ?_
  rintro r2 ⟨⟨_, hbr2⟩, rfl⟩
  obtain ⟨hcr2, hfr2⟩ := bcell hbr2
  have hzr2 := hbr2.size
  try simp only [World.size_alloc, World.size_setCell, World.size_drew] at hzr2
  have hlr2w0 : w.heap.size < r2.heap.size := by omega
  have k2_0 : r2.cell? ⟨0, 0, none⟩ = some (.int .i64 8) := (hcr2 _ _ (by (try simp only [World.size_alloc, World.size_setCell]); omega)).trans k1_0
  have k2_1 : r2.cell? ⟨0, 1, none⟩ = some (.int .i64 (-483)) := (hcr2 _ _ (by (try simp only [World.size_alloc, World.size_setCell]); omega)).trans k1_1
  have k2_2 : r2.cell? ⟨0, 2, none⟩ = some (.int .i64 21534) := (hcr2 _ _ (by (try simp only [World.size_alloc, World.size_setCell]); omega)).trans k1_2
  have k2_3 : r2.cell? ⟨0, 3, none⟩ = some (.int .i64 (-628374)) := (hcr2 _ _ (by (try simp only [World.size_alloc, World.size_setCell]); omega)).trans k1_3
  have k2_4 : r2.cell? ⟨0, 4, none⟩ = some (.int .i64 10696163) := (hcr2 _ _ (by (try simp only [World.size_alloc, World.size_setCell]); omega)).trans k1_4
  have k2_5 : r2.cell? ⟨0, 5, none⟩ = some (.int .i64 (-86699834)) := (hcr2 _ _ (by (try simp only [World.size_alloc, World.size_setCell]); omega)).trans k1_5
  have k2_6 : r2.cell? ⟨0, 6, none⟩ = some (.int .i64 210828714) := (hcr2 _ _ (by (try simp only [World.size_alloc, World.size_setCell]); omega)).trans k1_6
  have z2 : 0 < r2.heap.size := by omega
  go_wp2_with fail
  rw [rounds_succ]
  go_wp2_with fail
  have hecr3 := @Ext.cell
  refine wp_region_ext (by kernel_rfl) (by kernel_rfl) ?_
  repeat (first | go_big_quiet_skip | (go_big_quiet_want; go_big_quiet_op; first | go_big_quiet_on | (go_big_quiet_call ((first | fail | (go_at_call 63; exact ext_call (fquot_any _ _ (by omega) (by omega) (by omega) (by omega) _)))))))
  clear hecr3
  refine wpQuiet_nil ?_
  rintro r3 ⟨⟨_, hbr3⟩, rfl⟩
  obtain ⟨hcr3, hfr3⟩ := bcell hbr3
  have hzr3 := hbr3.size
  try simp only [World.size_alloc, World.size_setCell, World.size_drew] at hzr3
  have hlr3w0 : w.heap.size < r3.heap.size := by omega
  have k3_0 : r3.cell? ⟨0, 0, none⟩ = some (.int .i64 8) := (hcr3 _ _ (by (try simp only [World.size_alloc, World.size_setCell]); omega)).trans k2_0
  have k3_1 : r3.cell? ⟨0, 1, none⟩ = some (.int .i64 (-483)) := (hcr3 _ _ (by (try simp only [World.size_alloc, World.size_setCell]); omega)).trans k2_1
  have k3_2 : r3.cell? ⟨0, 2, none⟩ = some (.int .i64 21534) := (hcr3 _ _ (by (try simp only [World.size_alloc, World.size_setCell]); omega)).trans k2_2
  have k3_3 : r3.cell? ⟨0, 3, none⟩ = some (.int .i64 (-628374)) := (hcr3 _ _ (by (try simp only [World.size_alloc, World.size_setCell]); omega)).trans k2_3
  have k3_4 : r3.cell? ⟨0, 4, none⟩ = some (.int .i64 10696163) := (hcr3 _ _ (by (try simp only [World.size_alloc, World.size_setCell]); omega)).trans k2_4
  have k3_5 : r3.cell? ⟨0, 5, none⟩ = some (.int .i64 (-86699834)) := (hcr3 _ _ (by (try simp only [World.size_alloc, World.size_setCell]); omega)).trans k2_5
  have k3_6 : r3.cell? ⟨0, 6, none⟩ = some (.int .i64 210828714) := (hcr3 _ _ (by (try simp only [World.size_alloc, World.size_setCell]); omega)).trans k2_6
  have z3 : 0 < r3.heap.size := by omega
  go_wp2_with fail
  rw [rounds_succ]
  go_wp2_with fail
  have hecr4 := @Ext.cell
  refine wp_region_ext (by kernel_rfl) (by kernel_rfl) ?_
  repeat (first | go_big_quiet_skip | (go_big_quiet_want; go_big_quiet_op; first | go_big_quiet_on | (go_big_quiet_call ((first | fail | (go_at_call 63; exact ext_call (fquot_any _ _ (by omega) (by omega) (by omega) (by omega) _)))))))
  clear hecr4
  refine wpQuiet_nil ?_
  rintro r4 ⟨⟨_, hbr4⟩, rfl⟩
  obtain ⟨hcr4, hfr4⟩ := bcell hbr4
  have hzr4 := hbr4.size
  try simp only [World.size_alloc, World.size_setCell, World.size_drew] at hzr4
  have hlr4w0 : w.heap.size < r4.heap.size := by omega
  have k4_0 : r4.cell? ⟨0, 0, none⟩ = some (.int .i64 8) := (hcr4 _ _ (by (try simp only [World.size_alloc, World.size_setCell]); omega)).trans k3_0
  have k4_1 : r4.cell? ⟨0, 1, none⟩ = some (.int .i64 (-483)) := (hcr4 _ _ (by (try simp only [World.size_alloc, World.size_setCell]); omega)).trans k3_1
  have k4_2 : r4.cell? ⟨0, 2, none⟩ = some (.int .i64 21534) := (hcr4 _ _ (by (try simp only [World.size_alloc, World.size_setCell]); omega)).trans k3_2
  have k4_3 : r4.cell? ⟨0, 3, none⟩ = some (.int .i64 (-628374)) := (hcr4 _ _ (by (try simp only [World.size_alloc, World.size_setCell]); omega)).trans k3_3
  have k4_4 : r4.cell? ⟨0, 4, none⟩ = some (.int .i64 10696163) := (hcr4 _ _ (by (try simp only [World.size_alloc, World.size_setCell]); omega)).trans k3_4
  have k4_5 : r4.cell? ⟨0, 5, none⟩ = some (.int .i64 (-86699834)) := (hcr4 _ _ (by (try simp only [World.size_alloc, World.size_setCell]); omega)).trans k3_5
  have k4_6 : r4.cell? ⟨0, 6, none⟩ = some (.int .i64 210828714) := (hcr4 _ _ (by (try simp only [World.size_alloc, World.size_setCell]); omega)).trans k3_6
  have z4 : 0 < r4.heap.size := by omega
  go_wp2_with fail
  rw [rounds_succ]
  go_wp2_with fail
  have hecr5 := @Ext.cell
  refine wp_region_ext (by kernel_rfl) (by kernel_rfl) ?_
  repeat (first | go_big_quiet_skip | (go_big_quiet_want; go_big_quiet_op; first | go_big_quiet_on | (go_big_quiet_call ((first | fail | (go_at_call 63; exact ext_call (fquot_any _ _ (by omega) (by omega) (by omega) (by omega) _)))))))
  clear hecr5
  refine wpQuiet_nil ?_
  rintro r5 ⟨⟨_, hbr5⟩, rfl⟩
  obtain ⟨hcr5, hfr5⟩ := bcell hbr5
  have hzr5 := hbr5.size
  try simp only [World.size_alloc, World.size_setCell, World.size_drew] at hzr5
  have hlr5w0 : w.heap.size < r5.heap.size := by omega
  have k5_0 : r5.cell? ⟨0, 0, none⟩ = some (.int .i64 8) := (hcr5 _ _ (by (try simp only [World.size_alloc, World.size_setCell]); omega)).trans k4_0
  have k5_1 : r5.cell? ⟨0, 1, none⟩ = some (.int .i64 (-483)) := (hcr5 _ _ (by (try simp only [World.size_alloc, World.size_setCell]); omega)).trans k4_1
  have k5_2 : r5.cell? ⟨0, 2, none⟩ = some (.int .i64 21534) := (hcr5 _ _ (by (try simp only [World.size_alloc, World.size_setCell]); omega)).trans k4_2
  have k5_3 : r5.cell? ⟨0, 3, none⟩ = some (.int .i64 (-628374)) := (hcr5 _ _ (by (try simp only [World.size_alloc, World.size_setCell]); omega)).trans k4_3
  have k5_4 : r5.cell? ⟨0, 4, none⟩ = some (.int .i64 10696163) := (hcr5 _ _ (by (try simp only [World.size_alloc, World.size_setCell]); omega)).trans k4_4
  have k5_5 : r5.cell? ⟨0, 5, none⟩ = some (.int .i64 (-86699834)) := (hcr5 _ _ (by (try simp only [World.size_alloc, World.size_setCell]); omega)).trans k4_5
  have k5_6 : r5.cell? ⟨0, 6, none⟩ = some (.int .i64 210828714) := (hcr5 _ _ (by (try simp only [World.size_alloc, World.size_setCell]); omega)).trans k4_6
  have z5 : 0 < r5.heap.size := by omega
  go_wp2_with fail
  rw [rounds_succ]
  go_wp2_with fail
  have hecr6 := @Ext.cell
  refine wp_region_ext (by kernel_rfl) (by kernel_rfl) ?_
  repeat (first | go_big_quiet_skip | (go_big_quiet_want; go_big_quiet_op; first | go_big_quiet_on | (go_big_quiet_call ((first | fail | (go_at_call 63; exact ext_call (fquot_any _ _ (by omega) (by omega) (by omega) (by omega) _)))))))
  clear hecr6
  refine wpQuiet_nil ?_
  rintro r6 ⟨⟨_, hbr6⟩, rfl⟩
  obtain ⟨hcr6, hfr6⟩ := bcell hbr6
  have hzr6 := hbr6.size
  try simp only [World.size_alloc, World.size_setCell, World.size_drew] at hzr6
  have hlr6w0 : w.heap.size < r6.heap.size := by omega
  have k6_0 : r6.cell? ⟨0, 0, none⟩ = some (.int .i64 8) := (hcr6 _ _ (by (try simp only [World.size_alloc, World.size_setCell]); omega)).trans k5_0
  have k6_1 : r6.cell? ⟨0, 1, none⟩ = some (.int .i64 (-483)) := (hcr6 _ _ (by (try simp only [World.size_alloc, World.size_setCell]); omega)).trans k5_1
  have k6_2 : r6.cell? ⟨0, 2, none⟩ = some (.int .i64 21534) := (hcr6 _ _ (by (try simp only [World.size_alloc, World.size_setCell]); omega)).trans k5_2
  have k6_3 : r6.cell? ⟨0, 3, none⟩ = some (.int .i64 (-628374)) := (hcr6 _ _ (by (try simp only [World.size_alloc, World.size_setCell]); omega)).trans k5_3
  have k6_4 : r6.cell? ⟨0, 4, none⟩ = some (.int .i64 10696163) := (hcr6 _ _ (by (try simp only [World.size_alloc, World.size_setCell]); omega)).trans k5_4
  have k6_5 : r6.cell? ⟨0, 5, none⟩ = some (.int .i64 (-86699834)) := (hcr6 _ _ (by (try simp only [World.size_alloc, World.size_setCell]); omega)).trans k5_5
  have k6_6 : r6.cell? ⟨0, 6, none⟩ = some (.int .i64 210828714) := (hcr6 _ _ (by (try simp only [World.size_alloc, World.size_setCell]); omega)).trans k5_6
  have z6 : 0 < r6.heap.size := by omega
  go_wp2_with fail
  rw [rounds_succ]
  go_wp2_with fail
  have hecr7 := @Ext.cell
  refine wp_region_ext (by kernel_rfl) (by kernel_rfl) ?_
  repeat (first | go_big_quiet_skip | (go_big_quiet_want; go_big_quiet_op; first | go_big_quiet_on | (go_big_quiet_call ((first | fail | (go_at_call 63; exact ext_call (fquot_any _ _ (by omega) (by omega) (by omega) (by omega) _)))))))
  clear hecr7
  refine wpQuiet_nil ?_
  rintro r7 ⟨⟨_, hbr7⟩, rfl⟩
  obtain ⟨hcr7, hfr7⟩ := bcell hbr7
  have hzr7 := hbr7.size
  try simp only [World.size_alloc, World.size_setCell, World.size_drew] at hzr7
  have hlr7w0 : w.heap.size < r7.heap.size := by omega
  have k7_0 : r7.cell? ⟨0, 0, none⟩ = some (.int .i64 8) := (hcr7 _ _ (by (try simp only [World.size_alloc, World.size_setCell]); omega)).trans k6_0
  have k7_1 : r7.cell? ⟨0, 1, none⟩ = some (.int .i64 (-483)) := (hcr7 _ _ (by (try simp only [World.size_alloc, World.size_setCell]); omega)).trans k6_1
  have k7_2 : r7.cell? ⟨0, 2, none⟩ = some (.int .i64 21534) := (hcr7 _ _ (by (try simp only [World.size_alloc, World.size_setCell]); omega)).trans k6_2
  have k7_3 : r7.cell? ⟨0, 3, none⟩ = some (.int .i64 (-628374)) := (hcr7 _ _ (by (try simp only [World.size_alloc, World.size_setCell]); omega)).trans k6_3
  have k7_4 : r7.cell? ⟨0, 4, none⟩ = some (.int .i64 10696163) := (hcr7 _ _ (by (try simp only [World.size_alloc, World.size_setCell]); omega)).trans k6_4
  have k7_5 : r7.cell? ⟨0, 5, none⟩ = some (.int .i64 (-86699834)) := (hcr7 _ _ (by (try simp only [World.size_alloc, World.size_setCell]); omega)).trans k6_5
  have k7_6 : r7.cell? ⟨0, 6, none⟩ = some (.int .i64 210828714) := (hcr7 _ _ (by (try simp only [World.size_alloc, World.size_setCell]); omega)).trans k6_6
  have z7 : 0 < r7.heap.size := by omega
  go_wp2_with fail
  rw [rounds_succ]
  go_wp2_with fail
  refine (fquot_any (4 * (v % 268435456) * g6) 268435456 (by omega) (by omega) (by omega) (by omega) _).mono ?_
  rintro _ r8 ⟨rfl, hbr8⟩
  obtain ⟨hcr8, hfr8⟩ := bcell hbr8
  have hzr8 := hbr8.size
  try simp only [World.size_alloc, World.size_setCell, World.size_drew] at hzr8
  have hlr8w0 : w.heap.size < r8.heap.size := by omega
  go_wp2_with fail
  refine (exactly_in s (by omega) (by omega) _).mono ?_
  rintro _ r9 ⟨rfl, hbr9⟩
  obtain ⟨hcr9, hfr9⟩ := bcell hbr9
  have hzr9 := hbr9.size
  try simp only [World.size_alloc, World.size_setCell, World.size_drew] at hzr9
  have hlr9w0 : w.heap.size < r9.heap.size := by omega
  go_wp2
  refine bodyPost_ret (v := (.agg #[.int .u16 (hi (s)), .int .u16 (lo (s))])) (by simp [results, Tryd.results73, go_sem, *]) rfl ⟨rfl, ?_⟩; exact (by repeat' (first | (with_reducible exact Below.refl _ _) | (with_reducible refine bl_set ?_ _ ?_) | (with_reducible refine bl_alloc ?_ _) | (with_reducible refine bl_drew ?_) | (with_reducible refine bl_via (by with_reducible assumption) ?_) | (with_reducible assumption) | omega | (simp only []; omega) | (simp; omega)))

set_option maxRecDepth 100000 in
set_option maxHeartbeats 2000000 in
theorem sine_1 (v : Int) (v0 : -1073741824 ≤ v) (v1 : v ≤ 1073741824) (c1 : ¬ 134217728 ≤ v % 268435456) (c2 : 67108864 < v % 268435456) (w : World) (hS : Sines w) :
    Calls Tryd.prog 73 #[.int .i64 v] w fun e w' => e = .returned (.agg #[.int .u16 (hi (sinq (134217728 - v % 268435456))), .int .u16 (lo (sinq (134217728 - v % 268435456)))]) ∧ Below w.heap.size w w' := by
  have m0 := Int.emod_nonneg v (b := 268435456) (by omega)
  have m1 := Int.emod_lt_of_pos v (b := 268435456) (by omega)
  obtain ⟨Z, g1, g2, g3, g4, g5, g6, s, ⟨y0, y1⟩, eZ, e1, e2, e3, e4, e5, e6, ⟨pa1, pb1⟩, ⟨pa2, pb2⟩, ⟨pa3, pb3⟩, ⟨pa4, pb4⟩, ⟨pa5, pb5⟩, ⟨pa6, pb6⟩, ⟨ra1, rb1⟩, ⟨ra2, rb2⟩, ⟨ra3, rb3⟩, ⟨ra4, rb4⟩, ⟨ra5, rb5⟩, ⟨ra6, rb6⟩, ⟨ya, yb⟩, es, ⟨s0, s1⟩, hs⟩ := sine_facts (134217728 - v % 268435456) (by omega) (by omega)
  rw [← hs]; clear hs
  have hl := i64_low28 v
  obtain ⟨t0, t1, t2, t3, t4, t5, t6, t7⟩ := hS
  go_enter Tryd.func73, Tryd.ntmps73
  go_wp2_with fail
  refine (fquot_any (4 * (134217728 - v % 268435456) * (4 * (134217728 - v % 268435456))) 268435456 (by omega) (by omega) (by omega) (by omega) _).mono ?_
  rintro _ r1 ⟨rfl, hbr1⟩
  obtain ⟨hcr1, hfr1⟩ := bcell hbr1
  have hzr1 := hbr1.size
  try simp only [World.size_alloc, World.size_setCell, World.size_drew] at hzr1
  have hlr1w0 : w.heap.size < r1.heap.size := by omega
  have k1_0 : r1.cell? ⟨0, 0, none⟩ = some (.int .i64 8) := (hcr1 _ _ (by (try simp only [World.size_alloc, World.size_setCell]); omega)).trans ((World.cell?_alloc_lt _ _ _ (by dsimp only; omega)).trans t0)
  have k1_1 : r1.cell? ⟨0, 1, none⟩ = some (.int .i64 (-483)) := (hcr1 _ _ (by (try simp only [World.size_alloc, World.size_setCell]); omega)).trans ((World.cell?_alloc_lt _ _ _ (by dsimp only; omega)).trans t1)
  have k1_2 : r1.cell? ⟨0, 2, none⟩ = some (.int .i64 21534) := (hcr1 _ _ (by (try simp only [World.size_alloc, World.size_setCell]); omega)).trans ((World.cell?_alloc_lt _ _ _ (by dsimp only; omega)).trans t2)
  have k1_3 : r1.cell? ⟨0, 3, none⟩ = some (.int .i64 (-628374)) := (hcr1 _ _ (by (try simp only [World.size_alloc, World.size_setCell]); omega)).trans ((World.cell?_alloc_lt _ _ _ (by dsimp only; omega)).trans t3)
  have k1_4 : r1.cell? ⟨0, 4, none⟩ = some (.int .i64 10696163) := (hcr1 _ _ (by (try simp only [World.size_alloc, World.size_setCell]); omega)).trans ((World.cell?_alloc_lt _ _ _ (by dsimp only; omega)).trans t4)
  have k1_5 : r1.cell? ⟨0, 5, none⟩ = some (.int .i64 (-86699834)) := (hcr1 _ _ (by (try simp only [World.size_alloc, World.size_setCell]); omega)).trans ((World.cell?_alloc_lt _ _ _ (by dsimp only; omega)).trans t5)
  have k1_6 : r1.cell? ⟨0, 6, none⟩ = some (.int .i64 210828714) := (hcr1 _ _ (by (try simp only [World.size_alloc, World.size_setCell]); omega)).trans ((World.cell?_alloc_lt _ _ _ (by dsimp only; omega)).trans t6)
  have z1 : 0 < r1.heap.size := by omega
  go_wp2_with fail
  refine wp_loop_rounds 7 ?_
  rw [rounds_succ]
  go_wp2_with fail
  have hecr2 := @Ext.cell
  refine wp_region_ext (by kernel_rfl) (by kernel_rfl) ?_
  repeat (first | go_big_quiet_skip | (go_big_quiet_want; go_big_quiet_op; first | go_big_quiet_on | (go_big_quiet_call ((first | fail | (go_at_call 63; exact ext_call (fquot_any _ _ (by omega) (by omega) (by omega) (by omega) _)))))))
  clear hecr2
  refine wpQuiet_nil ?_
  rintro r2 ⟨⟨_, hbr2⟩, rfl⟩
  obtain ⟨hcr2, hfr2⟩ := bcell hbr2
  have hzr2 := hbr2.size
  try simp only [World.size_alloc, World.size_setCell, World.size_drew] at hzr2
  have hlr2w0 : w.heap.size < r2.heap.size := by omega
  have k2_0 : r2.cell? ⟨0, 0, none⟩ = some (.int .i64 8) := (hcr2 _ _ (by (try simp only [World.size_alloc, World.size_setCell]); omega)).trans k1_0
  have k2_1 : r2.cell? ⟨0, 1, none⟩ = some (.int .i64 (-483)) := (hcr2 _ _ (by (try simp only [World.size_alloc, World.size_setCell]); omega)).trans k1_1
  have k2_2 : r2.cell? ⟨0, 2, none⟩ = some (.int .i64 21534) := (hcr2 _ _ (by (try simp only [World.size_alloc, World.size_setCell]); omega)).trans k1_2
  have k2_3 : r2.cell? ⟨0, 3, none⟩ = some (.int .i64 (-628374)) := (hcr2 _ _ (by (try simp only [World.size_alloc, World.size_setCell]); omega)).trans k1_3
  have k2_4 : r2.cell? ⟨0, 4, none⟩ = some (.int .i64 10696163) := (hcr2 _ _ (by (try simp only [World.size_alloc, World.size_setCell]); omega)).trans k1_4
  have k2_5 : r2.cell? ⟨0, 5, none⟩ = some (.int .i64 (-86699834)) := (hcr2 _ _ (by (try simp only [World.size_alloc, World.size_setCell]); omega)).trans k1_5
  have k2_6 : r2.cell? ⟨0, 6, none⟩ = some (.int .i64 210828714) := (hcr2 _ _ (by (try simp only [World.size_alloc, World.size_setCell]); omega)).trans k1_6
  have z2 : 0 < r2.heap.size := by omega
  go_wp2_with fail
  rw [rounds_succ]
  go_wp2_with fail
  have hecr3 := @Ext.cell
  refine wp_region_ext (by kernel_rfl) (by kernel_rfl) ?_
  repeat (first | go_big_quiet_skip | (go_big_quiet_want; go_big_quiet_op; first | go_big_quiet_on | (go_big_quiet_call ((first | fail | (go_at_call 63; exact ext_call (fquot_any _ _ (by omega) (by omega) (by omega) (by omega) _)))))))
  clear hecr3
  refine wpQuiet_nil ?_
  rintro r3 ⟨⟨_, hbr3⟩, rfl⟩
  obtain ⟨hcr3, hfr3⟩ := bcell hbr3
  have hzr3 := hbr3.size
  try simp only [World.size_alloc, World.size_setCell, World.size_drew] at hzr3
  have hlr3w0 : w.heap.size < r3.heap.size := by omega
  have k3_0 : r3.cell? ⟨0, 0, none⟩ = some (.int .i64 8) := (hcr3 _ _ (by (try simp only [World.size_alloc, World.size_setCell]); omega)).trans k2_0
  have k3_1 : r3.cell? ⟨0, 1, none⟩ = some (.int .i64 (-483)) := (hcr3 _ _ (by (try simp only [World.size_alloc, World.size_setCell]); omega)).trans k2_1
  have k3_2 : r3.cell? ⟨0, 2, none⟩ = some (.int .i64 21534) := (hcr3 _ _ (by (try simp only [World.size_alloc, World.size_setCell]); omega)).trans k2_2
  have k3_3 : r3.cell? ⟨0, 3, none⟩ = some (.int .i64 (-628374)) := (hcr3 _ _ (by (try simp only [World.size_alloc, World.size_setCell]); omega)).trans k2_3
  have k3_4 : r3.cell? ⟨0, 4, none⟩ = some (.int .i64 10696163) := (hcr3 _ _ (by (try simp only [World.size_alloc, World.size_setCell]); omega)).trans k2_4
  have k3_5 : r3.cell? ⟨0, 5, none⟩ = some (.int .i64 (-86699834)) := (hcr3 _ _ (by (try simp only [World.size_alloc, World.size_setCell]); omega)).trans k2_5
  have k3_6 : r3.cell? ⟨0, 6, none⟩ = some (.int .i64 210828714) := (hcr3 _ _ (by (try simp only [World.size_alloc, World.size_setCell]); omega)).trans k2_6
  have z3 : 0 < r3.heap.size := by omega
  go_wp2_with fail
  rw [rounds_succ]
  go_wp2_with fail
  have hecr4 := @Ext.cell
  refine wp_region_ext (by kernel_rfl) (by kernel_rfl) ?_
  repeat (first | go_big_quiet_skip | (go_big_quiet_want; go_big_quiet_op; first | go_big_quiet_on | (go_big_quiet_call ((first | fail | (go_at_call 63; exact ext_call (fquot_any _ _ (by omega) (by omega) (by omega) (by omega) _)))))))
  clear hecr4
  refine wpQuiet_nil ?_
  rintro r4 ⟨⟨_, hbr4⟩, rfl⟩
  obtain ⟨hcr4, hfr4⟩ := bcell hbr4
  have hzr4 := hbr4.size
  try simp only [World.size_alloc, World.size_setCell, World.size_drew] at hzr4
  have hlr4w0 : w.heap.size < r4.heap.size := by omega
  have k4_0 : r4.cell? ⟨0, 0, none⟩ = some (.int .i64 8) := (hcr4 _ _ (by (try simp only [World.size_alloc, World.size_setCell]); omega)).trans k3_0
  have k4_1 : r4.cell? ⟨0, 1, none⟩ = some (.int .i64 (-483)) := (hcr4 _ _ (by (try simp only [World.size_alloc, World.size_setCell]); omega)).trans k3_1
  have k4_2 : r4.cell? ⟨0, 2, none⟩ = some (.int .i64 21534) := (hcr4 _ _ (by (try simp only [World.size_alloc, World.size_setCell]); omega)).trans k3_2
  have k4_3 : r4.cell? ⟨0, 3, none⟩ = some (.int .i64 (-628374)) := (hcr4 _ _ (by (try simp only [World.size_alloc, World.size_setCell]); omega)).trans k3_3
  have k4_4 : r4.cell? ⟨0, 4, none⟩ = some (.int .i64 10696163) := (hcr4 _ _ (by (try simp only [World.size_alloc, World.size_setCell]); omega)).trans k3_4
  have k4_5 : r4.cell? ⟨0, 5, none⟩ = some (.int .i64 (-86699834)) := (hcr4 _ _ (by (try simp only [World.size_alloc, World.size_setCell]); omega)).trans k3_5
  have k4_6 : r4.cell? ⟨0, 6, none⟩ = some (.int .i64 210828714) := (hcr4 _ _ (by (try simp only [World.size_alloc, World.size_setCell]); omega)).trans k3_6
  have z4 : 0 < r4.heap.size := by omega
  go_wp2_with fail
  rw [rounds_succ]
  go_wp2_with fail
  have hecr5 := @Ext.cell
  refine wp_region_ext (by kernel_rfl) (by kernel_rfl) ?_
  repeat (first | go_big_quiet_skip | (go_big_quiet_want; go_big_quiet_op; first | go_big_quiet_on | (go_big_quiet_call ((first | fail | (go_at_call 63; exact ext_call (fquot_any _ _ (by omega) (by omega) (by omega) (by omega) _)))))))
  clear hecr5
  refine wpQuiet_nil ?_
  rintro r5 ⟨⟨_, hbr5⟩, rfl⟩
  obtain ⟨hcr5, hfr5⟩ := bcell hbr5
  have hzr5 := hbr5.size
  try simp only [World.size_alloc, World.size_setCell, World.size_drew] at hzr5
  have hlr5w0 : w.heap.size < r5.heap.size := by omega
  have k5_0 : r5.cell? ⟨0, 0, none⟩ = some (.int .i64 8) := (hcr5 _ _ (by (try simp only [World.size_alloc, World.size_setCell]); omega)).trans k4_0
  have k5_1 : r5.cell? ⟨0, 1, none⟩ = some (.int .i64 (-483)) := (hcr5 _ _ (by (try simp only [World.size_alloc, World.size_setCell]); omega)).trans k4_1
  have k5_2 : r5.cell? ⟨0, 2, none⟩ = some (.int .i64 21534) := (hcr5 _ _ (by (try simp only [World.size_alloc, World.size_setCell]); omega)).trans k4_2
  have k5_3 : r5.cell? ⟨0, 3, none⟩ = some (.int .i64 (-628374)) := (hcr5 _ _ (by (try simp only [World.size_alloc, World.size_setCell]); omega)).trans k4_3
  have k5_4 : r5.cell? ⟨0, 4, none⟩ = some (.int .i64 10696163) := (hcr5 _ _ (by (try simp only [World.size_alloc, World.size_setCell]); omega)).trans k4_4
  have k5_5 : r5.cell? ⟨0, 5, none⟩ = some (.int .i64 (-86699834)) := (hcr5 _ _ (by (try simp only [World.size_alloc, World.size_setCell]); omega)).trans k4_5
  have k5_6 : r5.cell? ⟨0, 6, none⟩ = some (.int .i64 210828714) := (hcr5 _ _ (by (try simp only [World.size_alloc, World.size_setCell]); omega)).trans k4_6
  have z5 : 0 < r5.heap.size := by omega
  go_wp2_with fail
  rw [rounds_succ]
  go_wp2_with fail
  have hecr6 := @Ext.cell
  refine wp_region_ext (by kernel_rfl) (by kernel_rfl) ?_
  repeat (first | go_big_quiet_skip | (go_big_quiet_want; go_big_quiet_op; first | go_big_quiet_on | (go_big_quiet_call ((first | fail | (go_at_call 63; exact ext_call (fquot_any _ _ (by omega) (by omega) (by omega) (by omega) _)))))))
  clear hecr6
  refine wpQuiet_nil ?_
  rintro r6 ⟨⟨_, hbr6⟩, rfl⟩
  obtain ⟨hcr6, hfr6⟩ := bcell hbr6
  have hzr6 := hbr6.size
  try simp only [World.size_alloc, World.size_setCell, World.size_drew] at hzr6
  have hlr6w0 : w.heap.size < r6.heap.size := by omega
  have k6_0 : r6.cell? ⟨0, 0, none⟩ = some (.int .i64 8) := (hcr6 _ _ (by (try simp only [World.size_alloc, World.size_setCell]); omega)).trans k5_0
  have k6_1 : r6.cell? ⟨0, 1, none⟩ = some (.int .i64 (-483)) := (hcr6 _ _ (by (try simp only [World.size_alloc, World.size_setCell]); omega)).trans k5_1
  have k6_2 : r6.cell? ⟨0, 2, none⟩ = some (.int .i64 21534) := (hcr6 _ _ (by (try simp only [World.size_alloc, World.size_setCell]); omega)).trans k5_2
  have k6_3 : r6.cell? ⟨0, 3, none⟩ = some (.int .i64 (-628374)) := (hcr6 _ _ (by (try simp only [World.size_alloc, World.size_setCell]); omega)).trans k5_3
  have k6_4 : r6.cell? ⟨0, 4, none⟩ = some (.int .i64 10696163) := (hcr6 _ _ (by (try simp only [World.size_alloc, World.size_setCell]); omega)).trans k5_4
  have k6_5 : r6.cell? ⟨0, 5, none⟩ = some (.int .i64 (-86699834)) := (hcr6 _ _ (by (try simp only [World.size_alloc, World.size_setCell]); omega)).trans k5_5
  have k6_6 : r6.cell? ⟨0, 6, none⟩ = some (.int .i64 210828714) := (hcr6 _ _ (by (try simp only [World.size_alloc, World.size_setCell]); omega)).trans k5_6
  have z6 : 0 < r6.heap.size := by omega
  go_wp2_with fail
  rw [rounds_succ]
  go_wp2_with fail
  have hecr7 := @Ext.cell
  refine wp_region_ext (by kernel_rfl) (by kernel_rfl) ?_
  repeat (first | go_big_quiet_skip | (go_big_quiet_want; go_big_quiet_op; first | go_big_quiet_on | (go_big_quiet_call ((first | fail | (go_at_call 63; exact ext_call (fquot_any _ _ (by omega) (by omega) (by omega) (by omega) _)))))))
  clear hecr7
  refine wpQuiet_nil ?_
  rintro r7 ⟨⟨_, hbr7⟩, rfl⟩
  obtain ⟨hcr7, hfr7⟩ := bcell hbr7
  have hzr7 := hbr7.size
  try simp only [World.size_alloc, World.size_setCell, World.size_drew] at hzr7
  have hlr7w0 : w.heap.size < r7.heap.size := by omega
  have k7_0 : r7.cell? ⟨0, 0, none⟩ = some (.int .i64 8) := (hcr7 _ _ (by (try simp only [World.size_alloc, World.size_setCell]); omega)).trans k6_0
  have k7_1 : r7.cell? ⟨0, 1, none⟩ = some (.int .i64 (-483)) := (hcr7 _ _ (by (try simp only [World.size_alloc, World.size_setCell]); omega)).trans k6_1
  have k7_2 : r7.cell? ⟨0, 2, none⟩ = some (.int .i64 21534) := (hcr7 _ _ (by (try simp only [World.size_alloc, World.size_setCell]); omega)).trans k6_2
  have k7_3 : r7.cell? ⟨0, 3, none⟩ = some (.int .i64 (-628374)) := (hcr7 _ _ (by (try simp only [World.size_alloc, World.size_setCell]); omega)).trans k6_3
  have k7_4 : r7.cell? ⟨0, 4, none⟩ = some (.int .i64 10696163) := (hcr7 _ _ (by (try simp only [World.size_alloc, World.size_setCell]); omega)).trans k6_4
  have k7_5 : r7.cell? ⟨0, 5, none⟩ = some (.int .i64 (-86699834)) := (hcr7 _ _ (by (try simp only [World.size_alloc, World.size_setCell]); omega)).trans k6_5
  have k7_6 : r7.cell? ⟨0, 6, none⟩ = some (.int .i64 210828714) := (hcr7 _ _ (by (try simp only [World.size_alloc, World.size_setCell]); omega)).trans k6_6
  have z7 : 0 < r7.heap.size := by omega
  go_wp2_with fail
  rw [rounds_succ]
  go_wp2_with fail
  refine (fquot_any (4 * (134217728 - v % 268435456) * g6) 268435456 (by omega) (by omega) (by omega) (by omega) _).mono ?_
  rintro _ r8 ⟨rfl, hbr8⟩
  obtain ⟨hcr8, hfr8⟩ := bcell hbr8
  have hzr8 := hbr8.size
  try simp only [World.size_alloc, World.size_setCell, World.size_drew] at hzr8
  have hlr8w0 : w.heap.size < r8.heap.size := by omega
  go_wp2_with fail
  refine (exactly_in s (by omega) (by omega) _).mono ?_
  rintro _ r9 ⟨rfl, hbr9⟩
  obtain ⟨hcr9, hfr9⟩ := bcell hbr9
  have hzr9 := hbr9.size
  try simp only [World.size_alloc, World.size_setCell, World.size_drew] at hzr9
  have hlr9w0 : w.heap.size < r9.heap.size := by omega
  go_wp2
  refine bodyPost_ret (v := (.agg #[.int .u16 (hi (s)), .int .u16 (lo (s))])) (by simp [results, Tryd.results73, go_sem, *]) rfl ⟨rfl, ?_⟩; exact (by repeat' (first | (with_reducible exact Below.refl _ _) | (with_reducible refine bl_set ?_ _ ?_) | (with_reducible refine bl_alloc ?_ _) | (with_reducible refine bl_drew ?_) | (with_reducible refine bl_via (by with_reducible assumption) ?_) | (with_reducible assumption) | omega | (simp only []; omega) | (simp; omega)))

set_option maxRecDepth 100000 in
set_option maxHeartbeats 2000000 in
theorem sine_2 (v : Int) (v0 : -1073741824 ≤ v) (v1 : v ≤ 1073741824) (c1 : 134217728 ≤ v % 268435456) (c2 : ¬ v % 268435456 - 268435456 < -67108864) (w : World) (hS : Sines w) :
    Calls Tryd.prog 73 #[.int .i64 v] w fun e w' => e = .returned (.agg #[.int .u16 (hi (sinq (v % 268435456 - 268435456))), .int .u16 (lo (sinq (v % 268435456 - 268435456)))]) ∧ Below w.heap.size w w' := by
  have m0 := Int.emod_nonneg v (b := 268435456) (by omega)
  have m1 := Int.emod_lt_of_pos v (b := 268435456) (by omega)
  obtain ⟨Z, g1, g2, g3, g4, g5, g6, s, ⟨y0, y1⟩, eZ, e1, e2, e3, e4, e5, e6, ⟨pa1, pb1⟩, ⟨pa2, pb2⟩, ⟨pa3, pb3⟩, ⟨pa4, pb4⟩, ⟨pa5, pb5⟩, ⟨pa6, pb6⟩, ⟨ra1, rb1⟩, ⟨ra2, rb2⟩, ⟨ra3, rb3⟩, ⟨ra4, rb4⟩, ⟨ra5, rb5⟩, ⟨ra6, rb6⟩, ⟨ya, yb⟩, es, ⟨s0, s1⟩, hs⟩ := sine_facts (v % 268435456 - 268435456) (by omega) (by omega)
  rw [← hs]; clear hs
  have hl := i64_low28 v
  obtain ⟨t0, t1, t2, t3, t4, t5, t6, t7⟩ := hS
  go_enter Tryd.func73, Tryd.ntmps73
  go_wp2_with fail
  refine (fquot_any (4 * (v % 268435456 - 268435456) * (4 * (v % 268435456 - 268435456))) 268435456 (by omega) (by omega) (by omega) (by omega) _).mono ?_
  rintro _ r1 ⟨rfl, hbr1⟩
  obtain ⟨hcr1, hfr1⟩ := bcell hbr1
  have hzr1 := hbr1.size
  try simp only [World.size_alloc, World.size_setCell, World.size_drew] at hzr1
  have hlr1w0 : w.heap.size < r1.heap.size := by omega
  have k1_0 : r1.cell? ⟨0, 0, none⟩ = some (.int .i64 8) := (hcr1 _ _ (by (try simp only [World.size_alloc, World.size_setCell]); omega)).trans ((World.cell?_alloc_lt _ _ _ (by dsimp only; omega)).trans t0)
  have k1_1 : r1.cell? ⟨0, 1, none⟩ = some (.int .i64 (-483)) := (hcr1 _ _ (by (try simp only [World.size_alloc, World.size_setCell]); omega)).trans ((World.cell?_alloc_lt _ _ _ (by dsimp only; omega)).trans t1)
  have k1_2 : r1.cell? ⟨0, 2, none⟩ = some (.int .i64 21534) := (hcr1 _ _ (by (try simp only [World.size_alloc, World.size_setCell]); omega)).trans ((World.cell?_alloc_lt _ _ _ (by dsimp only; omega)).trans t2)
  have k1_3 : r1.cell? ⟨0, 3, none⟩ = some (.int .i64 (-628374)) := (hcr1 _ _ (by (try simp only [World.size_alloc, World.size_setCell]); omega)).trans ((World.cell?_alloc_lt _ _ _ (by dsimp only; omega)).trans t3)
  have k1_4 : r1.cell? ⟨0, 4, none⟩ = some (.int .i64 10696163) := (hcr1 _ _ (by (try simp only [World.size_alloc, World.size_setCell]); omega)).trans ((World.cell?_alloc_lt _ _ _ (by dsimp only; omega)).trans t4)
  have k1_5 : r1.cell? ⟨0, 5, none⟩ = some (.int .i64 (-86699834)) := (hcr1 _ _ (by (try simp only [World.size_alloc, World.size_setCell]); omega)).trans ((World.cell?_alloc_lt _ _ _ (by dsimp only; omega)).trans t5)
  have k1_6 : r1.cell? ⟨0, 6, none⟩ = some (.int .i64 210828714) := (hcr1 _ _ (by (try simp only [World.size_alloc, World.size_setCell]); omega)).trans ((World.cell?_alloc_lt _ _ _ (by dsimp only; omega)).trans t6)
  have z1 : 0 < r1.heap.size := by omega
  go_wp2_with fail
  refine wp_loop_rounds 7 ?_
  rw [rounds_succ]
  go_wp2_with fail
  have hecr2 := @Ext.cell
  refine wp_region_ext (by kernel_rfl) (by kernel_rfl) ?_
  repeat (first | go_big_quiet_skip | (go_big_quiet_want; go_big_quiet_op; first | go_big_quiet_on | (go_big_quiet_call ((first | fail | (go_at_call 63; exact ext_call (fquot_any _ _ (by omega) (by omega) (by omega) (by omega) _)))))))
  clear hecr2
  refine wpQuiet_nil ?_
  rintro r2 ⟨⟨_, hbr2⟩, rfl⟩
  obtain ⟨hcr2, hfr2⟩ := bcell hbr2
  have hzr2 := hbr2.size
  try simp only [World.size_alloc, World.size_setCell, World.size_drew] at hzr2
  have hlr2w0 : w.heap.size < r2.heap.size := by omega
  have k2_0 : r2.cell? ⟨0, 0, none⟩ = some (.int .i64 8) := (hcr2 _ _ (by (try simp only [World.size_alloc, World.size_setCell]); omega)).trans k1_0
  have k2_1 : r2.cell? ⟨0, 1, none⟩ = some (.int .i64 (-483)) := (hcr2 _ _ (by (try simp only [World.size_alloc, World.size_setCell]); omega)).trans k1_1
  have k2_2 : r2.cell? ⟨0, 2, none⟩ = some (.int .i64 21534) := (hcr2 _ _ (by (try simp only [World.size_alloc, World.size_setCell]); omega)).trans k1_2
  have k2_3 : r2.cell? ⟨0, 3, none⟩ = some (.int .i64 (-628374)) := (hcr2 _ _ (by (try simp only [World.size_alloc, World.size_setCell]); omega)).trans k1_3
  have k2_4 : r2.cell? ⟨0, 4, none⟩ = some (.int .i64 10696163) := (hcr2 _ _ (by (try simp only [World.size_alloc, World.size_setCell]); omega)).trans k1_4
  have k2_5 : r2.cell? ⟨0, 5, none⟩ = some (.int .i64 (-86699834)) := (hcr2 _ _ (by (try simp only [World.size_alloc, World.size_setCell]); omega)).trans k1_5
  have k2_6 : r2.cell? ⟨0, 6, none⟩ = some (.int .i64 210828714) := (hcr2 _ _ (by (try simp only [World.size_alloc, World.size_setCell]); omega)).trans k1_6
  have z2 : 0 < r2.heap.size := by omega
  go_wp2_with fail
  rw [rounds_succ]
  go_wp2_with fail
  have hecr3 := @Ext.cell
  refine wp_region_ext (by kernel_rfl) (by kernel_rfl) ?_
  repeat (first | go_big_quiet_skip | (go_big_quiet_want; go_big_quiet_op; first | go_big_quiet_on | (go_big_quiet_call ((first | fail | (go_at_call 63; exact ext_call (fquot_any _ _ (by omega) (by omega) (by omega) (by omega) _)))))))
  clear hecr3
  refine wpQuiet_nil ?_
  rintro r3 ⟨⟨_, hbr3⟩, rfl⟩
  obtain ⟨hcr3, hfr3⟩ := bcell hbr3
  have hzr3 := hbr3.size
  try simp only [World.size_alloc, World.size_setCell, World.size_drew] at hzr3
  have hlr3w0 : w.heap.size < r3.heap.size := by omega
  have k3_0 : r3.cell? ⟨0, 0, none⟩ = some (.int .i64 8) := (hcr3 _ _ (by (try simp only [World.size_alloc, World.size_setCell]); omega)).trans k2_0
  have k3_1 : r3.cell? ⟨0, 1, none⟩ = some (.int .i64 (-483)) := (hcr3 _ _ (by (try simp only [World.size_alloc, World.size_setCell]); omega)).trans k2_1
  have k3_2 : r3.cell? ⟨0, 2, none⟩ = some (.int .i64 21534) := (hcr3 _ _ (by (try simp only [World.size_alloc, World.size_setCell]); omega)).trans k2_2
  have k3_3 : r3.cell? ⟨0, 3, none⟩ = some (.int .i64 (-628374)) := (hcr3 _ _ (by (try simp only [World.size_alloc, World.size_setCell]); omega)).trans k2_3
  have k3_4 : r3.cell? ⟨0, 4, none⟩ = some (.int .i64 10696163) := (hcr3 _ _ (by (try simp only [World.size_alloc, World.size_setCell]); omega)).trans k2_4
  have k3_5 : r3.cell? ⟨0, 5, none⟩ = some (.int .i64 (-86699834)) := (hcr3 _ _ (by (try simp only [World.size_alloc, World.size_setCell]); omega)).trans k2_5
  have k3_6 : r3.cell? ⟨0, 6, none⟩ = some (.int .i64 210828714) := (hcr3 _ _ (by (try simp only [World.size_alloc, World.size_setCell]); omega)).trans k2_6
  have z3 : 0 < r3.heap.size := by omega
  go_wp2_with fail
  rw [rounds_succ]
  go_wp2_with fail
  have hecr4 := @Ext.cell
  refine wp_region_ext (by kernel_rfl) (by kernel_rfl) ?_
  repeat (first | go_big_quiet_skip | (go_big_quiet_want; go_big_quiet_op; first | go_big_quiet_on | (go_big_quiet_call ((first | fail | (go_at_call 63; exact ext_call (fquot_any _ _ (by omega) (by omega) (by omega) (by omega) _)))))))
  clear hecr4
  refine wpQuiet_nil ?_
  rintro r4 ⟨⟨_, hbr4⟩, rfl⟩
  obtain ⟨hcr4, hfr4⟩ := bcell hbr4
  have hzr4 := hbr4.size
  try simp only [World.size_alloc, World.size_setCell, World.size_drew] at hzr4
  have hlr4w0 : w.heap.size < r4.heap.size := by omega
  have k4_0 : r4.cell? ⟨0, 0, none⟩ = some (.int .i64 8) := (hcr4 _ _ (by (try simp only [World.size_alloc, World.size_setCell]); omega)).trans k3_0
  have k4_1 : r4.cell? ⟨0, 1, none⟩ = some (.int .i64 (-483)) := (hcr4 _ _ (by (try simp only [World.size_alloc, World.size_setCell]); omega)).trans k3_1
  have k4_2 : r4.cell? ⟨0, 2, none⟩ = some (.int .i64 21534) := (hcr4 _ _ (by (try simp only [World.size_alloc, World.size_setCell]); omega)).trans k3_2
  have k4_3 : r4.cell? ⟨0, 3, none⟩ = some (.int .i64 (-628374)) := (hcr4 _ _ (by (try simp only [World.size_alloc, World.size_setCell]); omega)).trans k3_3
  have k4_4 : r4.cell? ⟨0, 4, none⟩ = some (.int .i64 10696163) := (hcr4 _ _ (by (try simp only [World.size_alloc, World.size_setCell]); omega)).trans k3_4
  have k4_5 : r4.cell? ⟨0, 5, none⟩ = some (.int .i64 (-86699834)) := (hcr4 _ _ (by (try simp only [World.size_alloc, World.size_setCell]); omega)).trans k3_5
  have k4_6 : r4.cell? ⟨0, 6, none⟩ = some (.int .i64 210828714) := (hcr4 _ _ (by (try simp only [World.size_alloc, World.size_setCell]); omega)).trans k3_6
  have z4 : 0 < r4.heap.size := by omega
  go_wp2_with fail
  rw [rounds_succ]
  go_wp2_with fail
  have hecr5 := @Ext.cell
  refine wp_region_ext (by kernel_rfl) (by kernel_rfl) ?_
  repeat (first | go_big_quiet_skip | (go_big_quiet_want; go_big_quiet_op; first | go_big_quiet_on | (go_big_quiet_call ((first | fail | (go_at_call 63; exact ext_call (fquot_any _ _ (by omega) (by omega) (by omega) (by omega) _)))))))
  clear hecr5
  refine wpQuiet_nil ?_
  rintro r5 ⟨⟨_, hbr5⟩, rfl⟩
  obtain ⟨hcr5, hfr5⟩ := bcell hbr5
  have hzr5 := hbr5.size
  try simp only [World.size_alloc, World.size_setCell, World.size_drew] at hzr5
  have hlr5w0 : w.heap.size < r5.heap.size := by omega
  have k5_0 : r5.cell? ⟨0, 0, none⟩ = some (.int .i64 8) := (hcr5 _ _ (by (try simp only [World.size_alloc, World.size_setCell]); omega)).trans k4_0
  have k5_1 : r5.cell? ⟨0, 1, none⟩ = some (.int .i64 (-483)) := (hcr5 _ _ (by (try simp only [World.size_alloc, World.size_setCell]); omega)).trans k4_1
  have k5_2 : r5.cell? ⟨0, 2, none⟩ = some (.int .i64 21534) := (hcr5 _ _ (by (try simp only [World.size_alloc, World.size_setCell]); omega)).trans k4_2
  have k5_3 : r5.cell? ⟨0, 3, none⟩ = some (.int .i64 (-628374)) := (hcr5 _ _ (by (try simp only [World.size_alloc, World.size_setCell]); omega)).trans k4_3
  have k5_4 : r5.cell? ⟨0, 4, none⟩ = some (.int .i64 10696163) := (hcr5 _ _ (by (try simp only [World.size_alloc, World.size_setCell]); omega)).trans k4_4
  have k5_5 : r5.cell? ⟨0, 5, none⟩ = some (.int .i64 (-86699834)) := (hcr5 _ _ (by (try simp only [World.size_alloc, World.size_setCell]); omega)).trans k4_5
  have k5_6 : r5.cell? ⟨0, 6, none⟩ = some (.int .i64 210828714) := (hcr5 _ _ (by (try simp only [World.size_alloc, World.size_setCell]); omega)).trans k4_6
  have z5 : 0 < r5.heap.size := by omega
  go_wp2_with fail
  rw [rounds_succ]
  go_wp2_with fail
  have hecr6 := @Ext.cell
  refine wp_region_ext (by kernel_rfl) (by kernel_rfl) ?_
  repeat (first | go_big_quiet_skip | (go_big_quiet_want; go_big_quiet_op; first | go_big_quiet_on | (go_big_quiet_call ((first | fail | (go_at_call 63; exact ext_call (fquot_any _ _ (by omega) (by omega) (by omega) (by omega) _)))))))
  clear hecr6
  refine wpQuiet_nil ?_
  rintro r6 ⟨⟨_, hbr6⟩, rfl⟩
  obtain ⟨hcr6, hfr6⟩ := bcell hbr6
  have hzr6 := hbr6.size
  try simp only [World.size_alloc, World.size_setCell, World.size_drew] at hzr6
  have hlr6w0 : w.heap.size < r6.heap.size := by omega
  have k6_0 : r6.cell? ⟨0, 0, none⟩ = some (.int .i64 8) := (hcr6 _ _ (by (try simp only [World.size_alloc, World.size_setCell]); omega)).trans k5_0
  have k6_1 : r6.cell? ⟨0, 1, none⟩ = some (.int .i64 (-483)) := (hcr6 _ _ (by (try simp only [World.size_alloc, World.size_setCell]); omega)).trans k5_1
  have k6_2 : r6.cell? ⟨0, 2, none⟩ = some (.int .i64 21534) := (hcr6 _ _ (by (try simp only [World.size_alloc, World.size_setCell]); omega)).trans k5_2
  have k6_3 : r6.cell? ⟨0, 3, none⟩ = some (.int .i64 (-628374)) := (hcr6 _ _ (by (try simp only [World.size_alloc, World.size_setCell]); omega)).trans k5_3
  have k6_4 : r6.cell? ⟨0, 4, none⟩ = some (.int .i64 10696163) := (hcr6 _ _ (by (try simp only [World.size_alloc, World.size_setCell]); omega)).trans k5_4
  have k6_5 : r6.cell? ⟨0, 5, none⟩ = some (.int .i64 (-86699834)) := (hcr6 _ _ (by (try simp only [World.size_alloc, World.size_setCell]); omega)).trans k5_5
  have k6_6 : r6.cell? ⟨0, 6, none⟩ = some (.int .i64 210828714) := (hcr6 _ _ (by (try simp only [World.size_alloc, World.size_setCell]); omega)).trans k5_6
  have z6 : 0 < r6.heap.size := by omega
  go_wp2_with fail
  rw [rounds_succ]
  go_wp2_with fail
  have hecr7 := @Ext.cell
  refine wp_region_ext (by kernel_rfl) (by kernel_rfl) ?_
  repeat (first | go_big_quiet_skip | (go_big_quiet_want; go_big_quiet_op; first | go_big_quiet_on | (go_big_quiet_call ((first | fail | (go_at_call 63; exact ext_call (fquot_any _ _ (by omega) (by omega) (by omega) (by omega) _)))))))
  clear hecr7
  refine wpQuiet_nil ?_
  rintro r7 ⟨⟨_, hbr7⟩, rfl⟩
  obtain ⟨hcr7, hfr7⟩ := bcell hbr7
  have hzr7 := hbr7.size
  try simp only [World.size_alloc, World.size_setCell, World.size_drew] at hzr7
  have hlr7w0 : w.heap.size < r7.heap.size := by omega
  have k7_0 : r7.cell? ⟨0, 0, none⟩ = some (.int .i64 8) := (hcr7 _ _ (by (try simp only [World.size_alloc, World.size_setCell]); omega)).trans k6_0
  have k7_1 : r7.cell? ⟨0, 1, none⟩ = some (.int .i64 (-483)) := (hcr7 _ _ (by (try simp only [World.size_alloc, World.size_setCell]); omega)).trans k6_1
  have k7_2 : r7.cell? ⟨0, 2, none⟩ = some (.int .i64 21534) := (hcr7 _ _ (by (try simp only [World.size_alloc, World.size_setCell]); omega)).trans k6_2
  have k7_3 : r7.cell? ⟨0, 3, none⟩ = some (.int .i64 (-628374)) := (hcr7 _ _ (by (try simp only [World.size_alloc, World.size_setCell]); omega)).trans k6_3
  have k7_4 : r7.cell? ⟨0, 4, none⟩ = some (.int .i64 10696163) := (hcr7 _ _ (by (try simp only [World.size_alloc, World.size_setCell]); omega)).trans k6_4
  have k7_5 : r7.cell? ⟨0, 5, none⟩ = some (.int .i64 (-86699834)) := (hcr7 _ _ (by (try simp only [World.size_alloc, World.size_setCell]); omega)).trans k6_5
  have k7_6 : r7.cell? ⟨0, 6, none⟩ = some (.int .i64 210828714) := (hcr7 _ _ (by (try simp only [World.size_alloc, World.size_setCell]); omega)).trans k6_6
  have z7 : 0 < r7.heap.size := by omega
  go_wp2_with fail
  rw [rounds_succ]
  go_wp2_with fail
  refine (fquot_any (4 * (v % 268435456 - 268435456) * g6) 268435456 (by omega) (by omega) (by omega) (by omega) _).mono ?_
  rintro _ r8 ⟨rfl, hbr8⟩
  obtain ⟨hcr8, hfr8⟩ := bcell hbr8
  have hzr8 := hbr8.size
  try simp only [World.size_alloc, World.size_setCell, World.size_drew] at hzr8
  have hlr8w0 : w.heap.size < r8.heap.size := by omega
  go_wp2_with fail
  refine (exactly_in s (by omega) (by omega) _).mono ?_
  rintro _ r9 ⟨rfl, hbr9⟩
  obtain ⟨hcr9, hfr9⟩ := bcell hbr9
  have hzr9 := hbr9.size
  try simp only [World.size_alloc, World.size_setCell, World.size_drew] at hzr9
  have hlr9w0 : w.heap.size < r9.heap.size := by omega
  go_wp2
  refine bodyPost_ret (v := (.agg #[.int .u16 (hi (s)), .int .u16 (lo (s))])) (by simp [results, Tryd.results73, go_sem, *]) rfl ⟨rfl, ?_⟩; exact (by repeat' (first | (with_reducible exact Below.refl _ _) | (with_reducible refine bl_set ?_ _ ?_) | (with_reducible refine bl_alloc ?_ _) | (with_reducible refine bl_drew ?_) | (with_reducible refine bl_via (by with_reducible assumption) ?_) | (with_reducible assumption) | omega | (simp only []; omega) | (simp; omega)))

set_option maxRecDepth 100000 in
set_option maxHeartbeats 2000000 in
theorem sine_3 (v : Int) (v0 : -1073741824 ≤ v) (v1 : v ≤ 1073741824) (c1 : 134217728 ≤ v % 268435456) (c2 : v % 268435456 - 268435456 < -67108864) (w : World) (hS : Sines w) :
    Calls Tryd.prog 73 #[.int .i64 v] w fun e w' => e = .returned (.agg #[.int .u16 (hi (sinq (-134217728 - (v % 268435456 - 268435456)))), .int .u16 (lo (sinq (-134217728 - (v % 268435456 - 268435456))))]) ∧ Below w.heap.size w w' := by
  have m0 := Int.emod_nonneg v (b := 268435456) (by omega)
  have m1 := Int.emod_lt_of_pos v (b := 268435456) (by omega)
  obtain ⟨Z, g1, g2, g3, g4, g5, g6, s, ⟨y0, y1⟩, eZ, e1, e2, e3, e4, e5, e6, ⟨pa1, pb1⟩, ⟨pa2, pb2⟩, ⟨pa3, pb3⟩, ⟨pa4, pb4⟩, ⟨pa5, pb5⟩, ⟨pa6, pb6⟩, ⟨ra1, rb1⟩, ⟨ra2, rb2⟩, ⟨ra3, rb3⟩, ⟨ra4, rb4⟩, ⟨ra5, rb5⟩, ⟨ra6, rb6⟩, ⟨ya, yb⟩, es, ⟨s0, s1⟩, hs⟩ := sine_facts (-134217728 - (v % 268435456 - 268435456)) (by omega) (by omega)
  rw [← hs]; clear hs
  have hl := i64_low28 v
  obtain ⟨t0, t1, t2, t3, t4, t5, t6, t7⟩ := hS
  go_enter Tryd.func73, Tryd.ntmps73
  go_wp2_with fail
  refine (fquot_any (4 * (-134217728 - (v % 268435456 - 268435456)) * (4 * (-134217728 - (v % 268435456 - 268435456)))) 268435456 (by omega) (by omega) (by omega) (by omega) _).mono ?_
  rintro _ r1 ⟨rfl, hbr1⟩
  obtain ⟨hcr1, hfr1⟩ := bcell hbr1
  have hzr1 := hbr1.size
  try simp only [World.size_alloc, World.size_setCell, World.size_drew] at hzr1
  have hlr1w0 : w.heap.size < r1.heap.size := by omega
  have k1_0 : r1.cell? ⟨0, 0, none⟩ = some (.int .i64 8) := (hcr1 _ _ (by (try simp only [World.size_alloc, World.size_setCell]); omega)).trans ((World.cell?_alloc_lt _ _ _ (by dsimp only; omega)).trans t0)
  have k1_1 : r1.cell? ⟨0, 1, none⟩ = some (.int .i64 (-483)) := (hcr1 _ _ (by (try simp only [World.size_alloc, World.size_setCell]); omega)).trans ((World.cell?_alloc_lt _ _ _ (by dsimp only; omega)).trans t1)
  have k1_2 : r1.cell? ⟨0, 2, none⟩ = some (.int .i64 21534) := (hcr1 _ _ (by (try simp only [World.size_alloc, World.size_setCell]); omega)).trans ((World.cell?_alloc_lt _ _ _ (by dsimp only; omega)).trans t2)
  have k1_3 : r1.cell? ⟨0, 3, none⟩ = some (.int .i64 (-628374)) := (hcr1 _ _ (by (try simp only [World.size_alloc, World.size_setCell]); omega)).trans ((World.cell?_alloc_lt _ _ _ (by dsimp only; omega)).trans t3)
  have k1_4 : r1.cell? ⟨0, 4, none⟩ = some (.int .i64 10696163) := (hcr1 _ _ (by (try simp only [World.size_alloc, World.size_setCell]); omega)).trans ((World.cell?_alloc_lt _ _ _ (by dsimp only; omega)).trans t4)
  have k1_5 : r1.cell? ⟨0, 5, none⟩ = some (.int .i64 (-86699834)) := (hcr1 _ _ (by (try simp only [World.size_alloc, World.size_setCell]); omega)).trans ((World.cell?_alloc_lt _ _ _ (by dsimp only; omega)).trans t5)
  have k1_6 : r1.cell? ⟨0, 6, none⟩ = some (.int .i64 210828714) := (hcr1 _ _ (by (try simp only [World.size_alloc, World.size_setCell]); omega)).trans ((World.cell?_alloc_lt _ _ _ (by dsimp only; omega)).trans t6)
  have z1 : 0 < r1.heap.size := by omega
  go_wp2_with fail
  refine wp_loop_rounds 7 ?_
  rw [rounds_succ]
  go_wp2_with fail
  have hecr2 := @Ext.cell
  refine wp_region_ext (by kernel_rfl) (by kernel_rfl) ?_
  repeat (first | go_big_quiet_skip | (go_big_quiet_want; go_big_quiet_op; first | go_big_quiet_on | (go_big_quiet_call ((first | fail | (go_at_call 63; exact ext_call (fquot_any _ _ (by omega) (by omega) (by omega) (by omega) _)))))))
  clear hecr2
  refine wpQuiet_nil ?_
  rintro r2 ⟨⟨_, hbr2⟩, rfl⟩
  obtain ⟨hcr2, hfr2⟩ := bcell hbr2
  have hzr2 := hbr2.size
  try simp only [World.size_alloc, World.size_setCell, World.size_drew] at hzr2
  have hlr2w0 : w.heap.size < r2.heap.size := by omega
  have k2_0 : r2.cell? ⟨0, 0, none⟩ = some (.int .i64 8) := (hcr2 _ _ (by (try simp only [World.size_alloc, World.size_setCell]); omega)).trans k1_0
  have k2_1 : r2.cell? ⟨0, 1, none⟩ = some (.int .i64 (-483)) := (hcr2 _ _ (by (try simp only [World.size_alloc, World.size_setCell]); omega)).trans k1_1
  have k2_2 : r2.cell? ⟨0, 2, none⟩ = some (.int .i64 21534) := (hcr2 _ _ (by (try simp only [World.size_alloc, World.size_setCell]); omega)).trans k1_2
  have k2_3 : r2.cell? ⟨0, 3, none⟩ = some (.int .i64 (-628374)) := (hcr2 _ _ (by (try simp only [World.size_alloc, World.size_setCell]); omega)).trans k1_3
  have k2_4 : r2.cell? ⟨0, 4, none⟩ = some (.int .i64 10696163) := (hcr2 _ _ (by (try simp only [World.size_alloc, World.size_setCell]); omega)).trans k1_4
  have k2_5 : r2.cell? ⟨0, 5, none⟩ = some (.int .i64 (-86699834)) := (hcr2 _ _ (by (try simp only [World.size_alloc, World.size_setCell]); omega)).trans k1_5
  have k2_6 : r2.cell? ⟨0, 6, none⟩ = some (.int .i64 210828714) := (hcr2 _ _ (by (try simp only [World.size_alloc, World.size_setCell]); omega)).trans k1_6
  have z2 : 0 < r2.heap.size := by omega
  go_wp2_with fail
  rw [rounds_succ]
  go_wp2_with fail
  have hecr3 := @Ext.cell
  refine wp_region_ext (by kernel_rfl) (by kernel_rfl) ?_
  repeat (first | go_big_quiet_skip | (go_big_quiet_want; go_big_quiet_op; first | go_big_quiet_on | (go_big_quiet_call ((first | fail | (go_at_call 63; exact ext_call (fquot_any _ _ (by omega) (by omega) (by omega) (by omega) _)))))))
  clear hecr3
  refine wpQuiet_nil ?_
  rintro r3 ⟨⟨_, hbr3⟩, rfl⟩
  obtain ⟨hcr3, hfr3⟩ := bcell hbr3
  have hzr3 := hbr3.size
  try simp only [World.size_alloc, World.size_setCell, World.size_drew] at hzr3
  have hlr3w0 : w.heap.size < r3.heap.size := by omega
  have k3_0 : r3.cell? ⟨0, 0, none⟩ = some (.int .i64 8) := (hcr3 _ _ (by (try simp only [World.size_alloc, World.size_setCell]); omega)).trans k2_0
  have k3_1 : r3.cell? ⟨0, 1, none⟩ = some (.int .i64 (-483)) := (hcr3 _ _ (by (try simp only [World.size_alloc, World.size_setCell]); omega)).trans k2_1
  have k3_2 : r3.cell? ⟨0, 2, none⟩ = some (.int .i64 21534) := (hcr3 _ _ (by (try simp only [World.size_alloc, World.size_setCell]); omega)).trans k2_2
  have k3_3 : r3.cell? ⟨0, 3, none⟩ = some (.int .i64 (-628374)) := (hcr3 _ _ (by (try simp only [World.size_alloc, World.size_setCell]); omega)).trans k2_3
  have k3_4 : r3.cell? ⟨0, 4, none⟩ = some (.int .i64 10696163) := (hcr3 _ _ (by (try simp only [World.size_alloc, World.size_setCell]); omega)).trans k2_4
  have k3_5 : r3.cell? ⟨0, 5, none⟩ = some (.int .i64 (-86699834)) := (hcr3 _ _ (by (try simp only [World.size_alloc, World.size_setCell]); omega)).trans k2_5
  have k3_6 : r3.cell? ⟨0, 6, none⟩ = some (.int .i64 210828714) := (hcr3 _ _ (by (try simp only [World.size_alloc, World.size_setCell]); omega)).trans k2_6
  have z3 : 0 < r3.heap.size := by omega
  go_wp2_with fail
  rw [rounds_succ]
  go_wp2_with fail
  have hecr4 := @Ext.cell
  refine wp_region_ext (by kernel_rfl) (by kernel_rfl) ?_
  repeat (first | go_big_quiet_skip | (go_big_quiet_want; go_big_quiet_op; first | go_big_quiet_on | (go_big_quiet_call ((first | fail | (go_at_call 63; exact ext_call (fquot_any _ _ (by omega) (by omega) (by omega) (by omega) _)))))))
  clear hecr4
  refine wpQuiet_nil ?_
  rintro r4 ⟨⟨_, hbr4⟩, rfl⟩
  obtain ⟨hcr4, hfr4⟩ := bcell hbr4
  have hzr4 := hbr4.size
  try simp only [World.size_alloc, World.size_setCell, World.size_drew] at hzr4
  have hlr4w0 : w.heap.size < r4.heap.size := by omega
  have k4_0 : r4.cell? ⟨0, 0, none⟩ = some (.int .i64 8) := (hcr4 _ _ (by (try simp only [World.size_alloc, World.size_setCell]); omega)).trans k3_0
  have k4_1 : r4.cell? ⟨0, 1, none⟩ = some (.int .i64 (-483)) := (hcr4 _ _ (by (try simp only [World.size_alloc, World.size_setCell]); omega)).trans k3_1
  have k4_2 : r4.cell? ⟨0, 2, none⟩ = some (.int .i64 21534) := (hcr4 _ _ (by (try simp only [World.size_alloc, World.size_setCell]); omega)).trans k3_2
  have k4_3 : r4.cell? ⟨0, 3, none⟩ = some (.int .i64 (-628374)) := (hcr4 _ _ (by (try simp only [World.size_alloc, World.size_setCell]); omega)).trans k3_3
  have k4_4 : r4.cell? ⟨0, 4, none⟩ = some (.int .i64 10696163) := (hcr4 _ _ (by (try simp only [World.size_alloc, World.size_setCell]); omega)).trans k3_4
  have k4_5 : r4.cell? ⟨0, 5, none⟩ = some (.int .i64 (-86699834)) := (hcr4 _ _ (by (try simp only [World.size_alloc, World.size_setCell]); omega)).trans k3_5
  have k4_6 : r4.cell? ⟨0, 6, none⟩ = some (.int .i64 210828714) := (hcr4 _ _ (by (try simp only [World.size_alloc, World.size_setCell]); omega)).trans k3_6
  have z4 : 0 < r4.heap.size := by omega
  go_wp2_with fail
  rw [rounds_succ]
  go_wp2_with fail
  have hecr5 := @Ext.cell
  refine wp_region_ext (by kernel_rfl) (by kernel_rfl) ?_
  repeat (first | go_big_quiet_skip | (go_big_quiet_want; go_big_quiet_op; first | go_big_quiet_on | (go_big_quiet_call ((first | fail | (go_at_call 63; exact ext_call (fquot_any _ _ (by omega) (by omega) (by omega) (by omega) _)))))))
  clear hecr5
  refine wpQuiet_nil ?_
  rintro r5 ⟨⟨_, hbr5⟩, rfl⟩
  obtain ⟨hcr5, hfr5⟩ := bcell hbr5
  have hzr5 := hbr5.size
  try simp only [World.size_alloc, World.size_setCell, World.size_drew] at hzr5
  have hlr5w0 : w.heap.size < r5.heap.size := by omega
  have k5_0 : r5.cell? ⟨0, 0, none⟩ = some (.int .i64 8) := (hcr5 _ _ (by (try simp only [World.size_alloc, World.size_setCell]); omega)).trans k4_0
  have k5_1 : r5.cell? ⟨0, 1, none⟩ = some (.int .i64 (-483)) := (hcr5 _ _ (by (try simp only [World.size_alloc, World.size_setCell]); omega)).trans k4_1
  have k5_2 : r5.cell? ⟨0, 2, none⟩ = some (.int .i64 21534) := (hcr5 _ _ (by (try simp only [World.size_alloc, World.size_setCell]); omega)).trans k4_2
  have k5_3 : r5.cell? ⟨0, 3, none⟩ = some (.int .i64 (-628374)) := (hcr5 _ _ (by (try simp only [World.size_alloc, World.size_setCell]); omega)).trans k4_3
  have k5_4 : r5.cell? ⟨0, 4, none⟩ = some (.int .i64 10696163) := (hcr5 _ _ (by (try simp only [World.size_alloc, World.size_setCell]); omega)).trans k4_4
  have k5_5 : r5.cell? ⟨0, 5, none⟩ = some (.int .i64 (-86699834)) := (hcr5 _ _ (by (try simp only [World.size_alloc, World.size_setCell]); omega)).trans k4_5
  have k5_6 : r5.cell? ⟨0, 6, none⟩ = some (.int .i64 210828714) := (hcr5 _ _ (by (try simp only [World.size_alloc, World.size_setCell]); omega)).trans k4_6
  have z5 : 0 < r5.heap.size := by omega
  go_wp2_with fail
  rw [rounds_succ]
  go_wp2_with fail
  have hecr6 := @Ext.cell
  refine wp_region_ext (by kernel_rfl) (by kernel_rfl) ?_
  repeat (first | go_big_quiet_skip | (go_big_quiet_want; go_big_quiet_op; first | go_big_quiet_on | (go_big_quiet_call ((first | fail | (go_at_call 63; exact ext_call (fquot_any _ _ (by omega) (by omega) (by omega) (by omega) _)))))))
  clear hecr6
  refine wpQuiet_nil ?_
  rintro r6 ⟨⟨_, hbr6⟩, rfl⟩
  obtain ⟨hcr6, hfr6⟩ := bcell hbr6
  have hzr6 := hbr6.size
  try simp only [World.size_alloc, World.size_setCell, World.size_drew] at hzr6
  have hlr6w0 : w.heap.size < r6.heap.size := by omega
  have k6_0 : r6.cell? ⟨0, 0, none⟩ = some (.int .i64 8) := (hcr6 _ _ (by (try simp only [World.size_alloc, World.size_setCell]); omega)).trans k5_0
  have k6_1 : r6.cell? ⟨0, 1, none⟩ = some (.int .i64 (-483)) := (hcr6 _ _ (by (try simp only [World.size_alloc, World.size_setCell]); omega)).trans k5_1
  have k6_2 : r6.cell? ⟨0, 2, none⟩ = some (.int .i64 21534) := (hcr6 _ _ (by (try simp only [World.size_alloc, World.size_setCell]); omega)).trans k5_2
  have k6_3 : r6.cell? ⟨0, 3, none⟩ = some (.int .i64 (-628374)) := (hcr6 _ _ (by (try simp only [World.size_alloc, World.size_setCell]); omega)).trans k5_3
  have k6_4 : r6.cell? ⟨0, 4, none⟩ = some (.int .i64 10696163) := (hcr6 _ _ (by (try simp only [World.size_alloc, World.size_setCell]); omega)).trans k5_4
  have k6_5 : r6.cell? ⟨0, 5, none⟩ = some (.int .i64 (-86699834)) := (hcr6 _ _ (by (try simp only [World.size_alloc, World.size_setCell]); omega)).trans k5_5
  have k6_6 : r6.cell? ⟨0, 6, none⟩ = some (.int .i64 210828714) := (hcr6 _ _ (by (try simp only [World.size_alloc, World.size_setCell]); omega)).trans k5_6
  have z6 : 0 < r6.heap.size := by omega
  go_wp2_with fail
  rw [rounds_succ]
  go_wp2_with fail
  have hecr7 := @Ext.cell
  refine wp_region_ext (by kernel_rfl) (by kernel_rfl) ?_
  repeat (first | go_big_quiet_skip | (go_big_quiet_want; go_big_quiet_op; first | go_big_quiet_on | (go_big_quiet_call ((first | fail | (go_at_call 63; exact ext_call (fquot_any _ _ (by omega) (by omega) (by omega) (by omega) _)))))))
  clear hecr7
  refine wpQuiet_nil ?_
  rintro r7 ⟨⟨_, hbr7⟩, rfl⟩
  obtain ⟨hcr7, hfr7⟩ := bcell hbr7
  have hzr7 := hbr7.size
  try simp only [World.size_alloc, World.size_setCell, World.size_drew] at hzr7
  have hlr7w0 : w.heap.size < r7.heap.size := by omega
  have k7_0 : r7.cell? ⟨0, 0, none⟩ = some (.int .i64 8) := (hcr7 _ _ (by (try simp only [World.size_alloc, World.size_setCell]); omega)).trans k6_0
  have k7_1 : r7.cell? ⟨0, 1, none⟩ = some (.int .i64 (-483)) := (hcr7 _ _ (by (try simp only [World.size_alloc, World.size_setCell]); omega)).trans k6_1
  have k7_2 : r7.cell? ⟨0, 2, none⟩ = some (.int .i64 21534) := (hcr7 _ _ (by (try simp only [World.size_alloc, World.size_setCell]); omega)).trans k6_2
  have k7_3 : r7.cell? ⟨0, 3, none⟩ = some (.int .i64 (-628374)) := (hcr7 _ _ (by (try simp only [World.size_alloc, World.size_setCell]); omega)).trans k6_3
  have k7_4 : r7.cell? ⟨0, 4, none⟩ = some (.int .i64 10696163) := (hcr7 _ _ (by (try simp only [World.size_alloc, World.size_setCell]); omega)).trans k6_4
  have k7_5 : r7.cell? ⟨0, 5, none⟩ = some (.int .i64 (-86699834)) := (hcr7 _ _ (by (try simp only [World.size_alloc, World.size_setCell]); omega)).trans k6_5
  have k7_6 : r7.cell? ⟨0, 6, none⟩ = some (.int .i64 210828714) := (hcr7 _ _ (by (try simp only [World.size_alloc, World.size_setCell]); omega)).trans k6_6
  have z7 : 0 < r7.heap.size := by omega
  go_wp2_with fail
  rw [rounds_succ]
  go_wp2_with fail
  refine (fquot_any (4 * (-134217728 - (v % 268435456 - 268435456)) * g6) 268435456 (by omega) (by omega) (by omega) (by omega) _).mono ?_
  rintro _ r8 ⟨rfl, hbr8⟩
  obtain ⟨hcr8, hfr8⟩ := bcell hbr8
  have hzr8 := hbr8.size
  try simp only [World.size_alloc, World.size_setCell, World.size_drew] at hzr8
  have hlr8w0 : w.heap.size < r8.heap.size := by omega
  go_wp2_with fail
  refine (exactly_in s (by omega) (by omega) _).mono ?_
  rintro _ r9 ⟨rfl, hbr9⟩
  obtain ⟨hcr9, hfr9⟩ := bcell hbr9
  have hzr9 := hbr9.size
  try simp only [World.size_alloc, World.size_setCell, World.size_drew] at hzr9
  have hlr9w0 : w.heap.size < r9.heap.size := by omega
  go_wp2
  refine bodyPost_ret (v := (.agg #[.int .u16 (hi (s)), .int .u16 (lo (s))])) (by simp [results, Tryd.results73, go_sem, *]) rfl ⟨rfl, ?_⟩; exact (by repeat' (first | (with_reducible exact Below.refl _ _) | (with_reducible refine bl_set ?_ _ ?_) | (with_reducible refine bl_alloc ?_ _) | (with_reducible refine bl_drew ?_) | (with_reducible refine bl_via (by with_reducible assumption) ?_) | (with_reducible assumption) | omega | (simp only []; omega) | (simp; omega)))

theorem sine_any (v : Int) (v0 : -1073741824 ≤ v) (v1 : v ≤ 1073741824) (w : World) (hS : Sines w) :
    Calls Tryd.prog 73 #[.int .i64 v] w fun e w' => e = .returned (.agg #[.int .u16 (hi (sinv v)), .int .u16 (lo (sinv v))]) ∧ Below w.heap.size w w' := by
  unfold sinv red red1
  by_cases c1 : 134217728 ≤ v % 268435456
  · rw [if_pos c1]
    by_cases c2 : v % 268435456 - 268435456 < -67108864
    · rw [if_neg (by omega), if_pos c2]; exact sine_3 v v0 v1 c1 c2 w hS
    · rw [if_neg (by omega), if_neg c2]; exact sine_2 v v0 v1 c1 c2 w hS
  · rw [if_neg c1]
    by_cases c2 : 67108864 < v % 268435456
    · rw [if_pos c2]; exact sine_1 v v0 v1 c1 c2 w hS
    · rw [if_neg c2, if_neg (by have := Int.emod_nonneg v (b := 268435456) (by omega); omega)]; exact sine_0 v v0 v1 c1 c2 w hS

theorem sinv_bd (v : Int) : -268435455 ≤ sinv v ∧ sinv v ≤ 268435455 := by
  have := (sin_bd (red v) (red_bd v).1 (red_bd v).2).2
  unfold sinv
  omega

theorem Sin_any (x y : Int) (hx0 : 0 ≤ x) (hx1 : x < 65536) (hy0 : 0 ≤ y) (hy1 : y < 65536) (w : World) (hS : Sines w) :
    Calls Tryd.prog 44 #[(.agg #[.int .u16 (x), .int .u16 (y)])] w fun e w' => e = .returned (.agg #[.int .u16 (hi (sinv (val x y))), .int .u16 (lo (sinv (val x y)))]) ∧ Below w.heap.size w w' := by
  have k0 := val_lo x y
  have k1 := val_hi x y
  go_enter Tryd.func44, Tryd.ntmps44
  go_wp2_with fail
  refine (value_any x y hx0 hx1 hy0 hy1 _).mono ?_
  rintro _ r1 ⟨rfl, hbr1⟩
  obtain ⟨hcr1, hfr1⟩ := bcell hbr1
  have hzr1 := hbr1.size
  try simp only [World.size_alloc, World.size_setCell, World.size_drew] at hzr1
  have hlr1w0 : w.heap.size < r1.heap.size := by omega
  have hlr1w1 : w.heap.size + 1 < r1.heap.size := by omega
  go_wp2_with fail
  refine (sine_any (val x y) (by omega) (by omega) _ ((hS.on (bl_alloc (bl_alloc (Below.refl _ _) _) _)).on hbr1)).mono ?_
  rintro _ r2 ⟨rfl, hbr2⟩
  obtain ⟨hcr2, hfr2⟩ := bcell hbr2
  have hzr2 := hbr2.size
  try simp only [World.size_alloc, World.size_setCell, World.size_drew] at hzr2
  have hlr2w0 : w.heap.size < r2.heap.size := by omega
  have hlr2w1 : w.heap.size + 1 < r2.heap.size := by omega
  go_wp2
  refine bodyPost_ret (v := (.agg #[.int .u16 (hi (sinv (val x y))), .int .u16 (lo (sinv (val x y)))])) (by simp [results, Tryd.results44, go_sem, *]) rfl ⟨rfl, ?_⟩; exact (by repeat' (first | (with_reducible exact Below.refl _ _) | (with_reducible refine bl_set ?_ _ ?_) | (with_reducible refine bl_alloc ?_ _) | (with_reducible refine bl_drew ?_) | (with_reducible refine bl_via (by with_reducible assumption) ?_) | (with_reducible assumption) | omega | (simp only []; omega) | (simp; omega)))

theorem Cos_any (x y : Int) (hx0 : 0 ≤ x) (hx1 : x < 65536) (hy0 : 0 ≤ y) (hy1 : y < 65536) (w : World) (hS : Sines w) :
    Calls Tryd.prog 45 #[(.agg #[.int .u16 (x), .int .u16 (y)])] w fun e w' => e = .returned (.agg #[.int .u16 (hi (sinv (val x y + 67108864))), .int .u16 (lo (sinv (val x y + 67108864)))]) ∧ Below w.heap.size w w' := by
  have k0 := val_lo x y
  have k1 := val_hi x y
  go_enter Tryd.func45, Tryd.ntmps45
  go_wp2_with fail
  refine (value_any x y hx0 hx1 hy0 hy1 _).mono ?_
  rintro _ r1 ⟨rfl, hbr1⟩
  obtain ⟨hcr1, hfr1⟩ := bcell hbr1
  have hzr1 := hbr1.size
  try simp only [World.size_alloc, World.size_setCell, World.size_drew] at hzr1
  have hlr1w0 : w.heap.size < r1.heap.size := by omega
  have hlr1w1 : w.heap.size + 1 < r1.heap.size := by omega
  go_wp2_with fail
  refine (sine_any (val x y + 67108864) (by omega) (by omega) _ ((hS.on (bl_alloc (bl_alloc (Below.refl _ _) _) _)).on hbr1)).mono ?_
  rintro _ r2 ⟨rfl, hbr2⟩
  obtain ⟨hcr2, hfr2⟩ := bcell hbr2
  have hzr2 := hbr2.size
  try simp only [World.size_alloc, World.size_setCell, World.size_drew] at hzr2
  have hlr2w0 : w.heap.size < r2.heap.size := by omega
  have hlr2w1 : w.heap.size + 1 < r2.heap.size := by omega
  go_wp2
  refine bodyPost_ret (v := (.agg #[.int .u16 (hi (sinv (val x y + 67108864))), .int .u16 (lo (sinv (val x y + 67108864)))])) (by simp [results, Tryd.results45, go_sem, *]) rfl ⟨rfl, ?_⟩; exact (by repeat' (first | (with_reducible exact Below.refl _ _) | (with_reducible refine bl_set ?_ _ ?_) | (with_reducible refine bl_alloc ?_ _) | (with_reducible refine bl_drew ?_) | (with_reducible refine bl_via (by with_reducible assumption) ?_) | (with_reducible assumption) | omega | (simp only []; omega) | (simp; omega)))
end Go.Proofs.YtbbhppjamighdaaDoor
