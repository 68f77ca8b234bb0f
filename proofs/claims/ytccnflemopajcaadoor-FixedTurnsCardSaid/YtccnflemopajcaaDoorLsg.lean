/- The walk of the law FixedTurns: for every input it returns true, where the table of coefficients is as laid. -/
import Derived.Test.YtccnflemopajcaaDoorWl
import Derived.Test.YtccnflemopajcaaDoorPn
import Derived.Test.YtccnflemopajcaaDoorLsh
namespace Go.Proofs.YtccnflemopajcaaDoor
set_option linter.unusedSimpArgs false
set_option linter.unusedVariables false
open Go.RowKit

theorem turns_facts (x y U : Int) (hx0 : 0 ≤ x) (hx1 : x < 65536) (hy0 : 0 ≤ y) (hy1 : y < 65536) (hU : U = if (val x y).tmod 268435456 < 0 then (val x y).tmod 268435456 + 268435456 else (val x y).tmod 268435456) : ∃ (n0 n1 s0 s1 S c0 c1 a0 a1 p0 p1 q0 q1 : Int), (-268435455 ≤ S ∧ S ≤ 268435455) ∧ (0 ≤ U ∧ U ≤ 268435455) ∧
    (∀ w, Calls Tryd.prog 20 #[.int .i64 (-(val x y).tmod 268435456)] w fun e w' => e = .returned (.agg #[.int .u16 (n0), .int .u16 (n1)]) ∧ Below w.heap.size w w') ∧
    (∀ w, Sines w → Calls Tryd.prog 28 #[(.agg #[.int .u16 (x), .int .u16 (y)])] w fun e w' => e = .returned (.agg #[.int .u16 (s0), .int .u16 (s1)]) ∧ Below w.heap.size w w') ∧
    (∀ w, Calls Tryd.prog 18 #[(.agg #[.int .u16 (s0), .int .u16 (s1)])] w fun e w' => e = .returned (.int .i64 (S)) ∧ Below w.heap.size w w') ∧
    (∀ w, Sines w → Calls Tryd.prog 28 #[(.agg #[.int .u16 (n0), .int .u16 (n1)])] w fun e w' => e = .returned (.agg #[.int .u16 (a0), .int .u16 (a1)]) ∧ Below w.heap.size w w') ∧
    (∀ w, Calls Tryd.prog 18 #[(.agg #[.int .u16 (a0), .int .u16 (a1)])] w fun e w' => e = .returned (.int .i64 (-S)) ∧ Below w.heap.size w w') ∧
    (∀ w, Sines w → Calls Tryd.prog 30 #[(.agg #[.int .u16 (n0), .int .u16 (n1)])] w fun e w' => e = .returned (.agg #[.int .u16 (c0), .int .u16 (c1)]) ∧ Below w.heap.size w w') ∧
    (∀ w, Sines w → Calls Tryd.prog 30 #[(.agg #[.int .u16 (x), .int .u16 (y)])] w fun e w' => e = .returned (.agg #[.int .u16 (c0), .int .u16 (c1)]) ∧ Below w.heap.size w w') ∧
    (∀ w, Calls Tryd.prog 20 #[.int .i64 (U)] w fun e w' => e = .returned (.agg #[.int .u16 (p0), .int .u16 (p1)]) ∧ Below w.heap.size w w') ∧
    (∀ w, Sines w → Calls Tryd.prog 28 #[(.agg #[.int .u16 (p0), .int .u16 (p1)])] w fun e w' => e = .returned (.agg #[.int .u16 (s0), .int .u16 (s1)]) ∧ Below w.heap.size w w') ∧
    (¬ 134217728 < U → (∀ w, Calls Tryd.prog 20 #[.int .i64 (134217728 - U)] w fun e w' => e = .returned (.agg #[.int .u16 (q0), .int .u16 (q1)]) ∧ Below w.heap.size w w') ∧ (∀ w, Sines w → Calls Tryd.prog 28 #[(.agg #[.int .u16 (q0), .int .u16 (q1)])] w fun e w' => e = .returned (.agg #[.int .u16 (s0), .int .u16 (s1)]) ∧ Below w.heap.size w w')) := by
  obtain ⟨ta, tb, tc⟩ := tmod_same (val x y)
  generalize (val x y).tmod 268435456 = V at *
  have hU0 : 0 ≤ U ∧ U ≤ 268435455 := by subst hU; split <;> omega
  have hUm : U % 268435456 = val x y % 268435456 := by subst hU; split <;> omega
  clear hU
  obtain ⟨s0, s1, hs0, hs1, CS, VS, es0, es1⟩ := sin_fn x y hx0 hx1 hy0 hy1
  obtain ⟨c0, c1, _, _, CC, _, ec0, ec1⟩ := cos_fn x y hx0 hx1 hy0 hy1
  obtain ⟨k0, k1, k2, k3⟩ := hi_lo (-V) (by omega) (by omega)
  have nv := val_of (-V) (by omega) (by omega)
  have CN := fun w => rdouble_any (-V) (by omega) (by omega) w
  obtain ⟨a0, a1, -, -, CA, VA, -⟩ := sin_fn (hi (-V)) (lo (-V)) (by omega) (by omega) (by omega) (by omega)
  obtain ⟨b0, b1, _, _, CB, _, eb0, eb1⟩ := cos_fn (hi (-V)) (lo (-V)) (by omega) (by omega) (by omega) (by omega)
  rw [nv] at VA eb0 eb1
  rw [sinv_neg, sinv_mod V (val x y) tc] at VA
  have ec : sinv (-V + 67108864) = sinv (val x y + 67108864) := by
    have h := sinv_flip (val x y + 67108864)
    rw [← h]; exact sinv_mod _ _ (by omega)
  rw [ec, ← ec0] at eb0
  rw [ec, ← ec1] at eb1
  subst eb0 eb1
  obtain ⟨u0, u1, u2, u3⟩ := hi_lo U (by omega) (by omega)
  have uv := val_of U (by omega) (by omega)
  obtain ⟨d0, d1, _, _, CD, _, ed0, ed1⟩ := sin_fn (hi U) (lo U) (by omega) (by omega) (by omega) (by omega)
  rw [uv, sinv_mod U (val x y) hUm, ← es0] at ed0
  rw [uv, sinv_mod U (val x y) hUm, ← es1] at ed1
  subst ed0 ed1
  by_cases hg : 134217728 < U
  · exact ⟨_, _, d0, d1, sinv (val x y), b0, b1, a0, a1, _, _, 0, 0, sinv_size _, hU0, CN, CS, VS, CA, VA, CB, CC, fun w => rdouble_any U (by omega) (by omega) w, CD, fun h => absurd hg h⟩
  · obtain ⟨g0, g1, g2, g3⟩ := hi_lo (134217728 - U) (by omega) (by omega)
    have gv := val_of (134217728 - U) (by omega) (by omega)
    obtain ⟨f0, f1, _, _, CF, _, ef0, ef1⟩ := sin_fn (hi (134217728 - U)) (lo (134217728 - U)) (by omega) (by omega) (by omega) (by omega)
    rw [gv, sinv_flip, sinv_mod U (val x y) hUm, ← es0] at ef0
    rw [gv, sinv_flip, sinv_mod U (val x y) hUm, ← es1] at ef1
    subst ef0 ef1
    exact ⟨_, _, f0, f1, sinv (val x y), b0, b1, a0, a1, _, _, _, _, sinv_size _, hU0, CN, CS, VS, CA, VA, CB, CC, fun w => rdouble_any U (by omega) (by omega) w, CD, fun h => ⟨fun w => rdouble_any (134217728 - U) (by omega) (by omega) w, CF⟩⟩

set_option maxHeartbeats 4000000 in
theorem turns_neg (x y : Int) (hx0 : 0 ≤ x) (hx1 : x < 65536) (hy0 : 0 ≤ y) (hy1 : y < 65536) (hn : (val x y).tmod 268435456 < 0) (w : World) (hS : Sines w) :
    Calls Tryd.prog 10 #[(.agg #[.int .u16 (x), .int .u16 (y)])] w fun e w' => e = .returned (.bool true) ∧ Below w.heap.size w w' := by
  obtain ⟨n0, n1, s0, s1, S, c0, c1, a0, a1, p0, p1, q0, q1, ⟨sa, sb⟩, ⟨ua, ub⟩, CN, CS, VS, CA, VA, CB, CC, CU, CD, hq⟩ := turns_facts x y ((val x y).tmod 268435456 + 268435456) hx0 hx1 hy0 hy1 (by rw [if_pos hn])
  have v0 := val_lo x y
  have v1 := val_hi x y
  obtain ⟨ta, tb, tc⟩ := tmod_same (val x y)
  have en : decide ((val x y).tmod 268435456 < 0) = true := decide_eq_true hn
  clear tc hn
  have heq := @eq_dbl
  have hq' : decide (134217728 < (val x y).tmod 268435456 + 268435456) = true ∨ decide (134217728 < (val x y).tmod 268435456 + 268435456) = false ∧ (∀ w, Calls Tryd.prog 20 #[.int .i64 (134217728 - ((val x y).tmod 268435456 + 268435456))] w fun e w' => e = .returned (.agg #[.int .u16 (q0), .int .u16 (q1)]) ∧ Below w.heap.size w w') ∧ (∀ w, Sines w → Calls Tryd.prog 28 #[(.agg #[.int .u16 (q0), .int .u16 (q1)])] w fun e w' => e = .returned (.agg #[.int .u16 (s0), .int .u16 (s1)]) ∧ Below w.heap.size w w') := by
    by_cases h : 134217728 < (val x y).tmod 268435456 + 268435456
    · exact .inl (decide_eq_true h)
    · exact .inr ⟨decide_eq_false h, hq h⟩
  clear hq
  rcases hq' with g | ⟨g, CQ, CR⟩
  · skip
    go_enter Tryd.func10, Tryd.ntmps10
    go_wp2_with fail
    refine (lives16 _ (hS.on (bl_alloc (Below.refl _ _) _))).mono ?_
    rintro _ r1 ⟨rfl, hbr1⟩
    obtain ⟨hcr1, hfr1⟩ := bcell hbr1
    have hzr1 := hbr1.size
    try simp only [World.size_alloc, World.size_setCell, World.size_drew] at hzr1
    have hlr1w0 : w.heap.size < r1.heap.size := by omega
    have hS1 := (hS.on (bl_alloc (Below.refl _ _) _)).on hbr1
    go_wp2_with fail
    refine (rvalue_any x y hx0 hx1 hy0 hy1 _).mono ?_
    rintro _ r2 ⟨rfl, hbr2⟩
    obtain ⟨hcr2, hfr2⟩ := bcell hbr2
    have hzr2 := hbr2.size
    try simp only [World.size_alloc, World.size_setCell, World.size_drew] at hzr2
    have hlr2w0 : w.heap.size < r2.heap.size := by omega
    have hS2 := hS1.on hbr2
    go_wp2_with fail
    refine (CN _).mono ?_
    rintro _ r3 ⟨rfl, hbr3⟩
    obtain ⟨hcr3, hfr3⟩ := bcell hbr3
    have hzr3 := hbr3.size
    try simp only [World.size_alloc, World.size_setCell, World.size_drew] at hzr3
    have hlr3w0 : w.heap.size < r3.heap.size := by omega
    have hS3 := hS2.on hbr3
    go_wp2_with fail
    refine (CS _ (hS3.on (bl_alloc (Below.refl _ _) _))).mono ?_
    rintro _ r4 ⟨rfl, hbr4⟩
    obtain ⟨hcr4, hfr4⟩ := bcell hbr4
    have hzr4 := hbr4.size
    try simp only [World.size_alloc, World.size_setCell, World.size_drew] at hzr4
    have hlr4w0 : w.heap.size < r4.heap.size := by omega
    have hlr4r30 : r3.heap.size < r4.heap.size := by omega
    have hS4 := (hS3.on (bl_alloc (Below.refl _ _) _)).on hbr4
    go_wp2_with fail
    have hecr5 := @Ext.cell
    refine wp_region_ext (by kernel_rfl) (by kernel_rfl) ?_
    repeat (first | go_big_quiet_skip | (go_big_quiet_want; go_big_quiet_op; first | go_big_quiet_on | (go_big_quiet_call ((first | fail | (go_at_call 28; exact ext_call (CA _ ((hS4.on (bl_alloc (Below.refl _ _) _)).on (Ext.h _)))) | (go_at_call 30; with_reducible exact ext_call (CB _ ((hS4.on (bl_alloc (Below.refl _ _) _)).on (Ext.h _)))) | (go_at_call 30; with_reducible exact ext_call (CC _ ((hS4.on (bl_alloc (Below.refl _ _) _)).on (Ext.h _)))) | (go_at_call 18; with_reducible exact ext_call (VS _)) | (go_at_call 18; with_reducible exact ext_call (VA _)))))))
    clear hecr5
    refine wpQuiet_nil ?_
    rintro r5 ⟨⟨_, hbr5⟩, rfl⟩
    obtain ⟨hcr5, hfr5⟩ := bcell hbr5
    have hzr5 := hbr5.size
    try simp only [World.size_alloc, World.size_setCell, World.size_drew] at hzr5
    have hlr5w0 : w.heap.size < r5.heap.size := by omega
    have hlr5r30 : r3.heap.size < r5.heap.size := by omega
    have hlr5r40 : r4.heap.size < r5.heap.size := by omega
    have hS5 := (hS4.on (bl_alloc (Below.refl _ _) _)).on hbr5
    go_wp2_with fail
    have hecr6 := @Ext.cell
    refine wp_region_ext (by kernel_rfl) (by kernel_rfl) ?_
    repeat (first | go_big_quiet_skip | (go_big_quiet_want; go_big_quiet_op; first | go_big_quiet_on | (go_big_quiet_call ((first | fail | (go_at_call 20; exact ext_call (CU _)) | (go_at_call 28; exact ext_call (CD _ (hS5.on (Ext.h _)))))))))
    clear hecr6
    refine wpQuiet_nil ?_
    rintro r6 ⟨⟨_, hbr6⟩, rfl⟩
    obtain ⟨hcr6, hfr6⟩ := bcell hbr6
    have hzr6 := hbr6.size
    try simp only [World.size_alloc, World.size_setCell, World.size_drew] at hzr6
    have hlr6w0 : w.heap.size < r6.heap.size := by omega
    have hlr6r30 : r3.heap.size < r6.heap.size := by omega
    have hlr6r40 : r4.heap.size < r6.heap.size := by omega
    have hS6 := hS5.on hbr6
    go_wp2_with fail
    have hecr7 := @Ext.cell
    refine wp_region_ext (by kernel_rfl) (by kernel_rfl) ?_
    repeat (first | go_big_quiet_skip | (go_big_quiet_want; go_big_quiet_op; first | go_big_quiet_on | (go_big_quiet_call ((first | fail | fail)))))
    clear hecr7
    refine wpQuiet_nil ?_
    rintro r7 ⟨⟨_, hbr7⟩, rfl⟩
    obtain ⟨hcr7, hfr7⟩ := bcell hbr7
    have hzr7 := hbr7.size
    try simp only [World.size_alloc, World.size_setCell, World.size_drew] at hzr7
    have hlr7w0 : w.heap.size < r7.heap.size := by omega
    have hlr7r30 : r3.heap.size < r7.heap.size := by omega
    have hlr7r40 : r4.heap.size < r7.heap.size := by omega
    go_wp2
    go_ret
    exact ⟨rfl, (by repeat' (first | (with_reducible exact Below.refl _ _) | (with_reducible refine bl_set ?_ _ ?_) | (with_reducible refine bl_alloc ?_ _) | (with_reducible refine bl_drew ?_) | (with_reducible refine bl_via (by with_reducible assumption) ?_) | (with_reducible assumption) | omega | (simp only []; omega) | (simp; omega)))⟩
  · skip
    go_enter Tryd.func10, Tryd.ntmps10
    go_wp2_with fail
    refine (lives16 _ (hS.on (bl_alloc (Below.refl _ _) _))).mono ?_
    rintro _ r1 ⟨rfl, hbr1⟩
    obtain ⟨hcr1, hfr1⟩ := bcell hbr1
    have hzr1 := hbr1.size
    try simp only [World.size_alloc, World.size_setCell, World.size_drew] at hzr1
    have hlr1w0 : w.heap.size < r1.heap.size := by omega
    have hS1 := (hS.on (bl_alloc (Below.refl _ _) _)).on hbr1
    go_wp2_with fail
    refine (rvalue_any x y hx0 hx1 hy0 hy1 _).mono ?_
    rintro _ r2 ⟨rfl, hbr2⟩
    obtain ⟨hcr2, hfr2⟩ := bcell hbr2
    have hzr2 := hbr2.size
    try simp only [World.size_alloc, World.size_setCell, World.size_drew] at hzr2
    have hlr2w0 : w.heap.size < r2.heap.size := by omega
    have hS2 := hS1.on hbr2
    go_wp2_with fail
    refine (CN _).mono ?_
    rintro _ r3 ⟨rfl, hbr3⟩
    obtain ⟨hcr3, hfr3⟩ := bcell hbr3
    have hzr3 := hbr3.size
    try simp only [World.size_alloc, World.size_setCell, World.size_drew] at hzr3
    have hlr3w0 : w.heap.size < r3.heap.size := by omega
    have hS3 := hS2.on hbr3
    go_wp2_with fail
    refine (CS _ (hS3.on (bl_alloc (Below.refl _ _) _))).mono ?_
    rintro _ r4 ⟨rfl, hbr4⟩
    obtain ⟨hcr4, hfr4⟩ := bcell hbr4
    have hzr4 := hbr4.size
    try simp only [World.size_alloc, World.size_setCell, World.size_drew] at hzr4
    have hlr4w0 : w.heap.size < r4.heap.size := by omega
    have hlr4r30 : r3.heap.size < r4.heap.size := by omega
    have hS4 := (hS3.on (bl_alloc (Below.refl _ _) _)).on hbr4
    go_wp2_with fail
    have hecr5 := @Ext.cell
    refine wp_region_ext (by kernel_rfl) (by kernel_rfl) ?_
    repeat (first | go_big_quiet_skip | (go_big_quiet_want; go_big_quiet_op; first | go_big_quiet_on | (go_big_quiet_call ((first | fail | (go_at_call 28; exact ext_call (CA _ ((hS4.on (bl_alloc (Below.refl _ _) _)).on (Ext.h _)))) | (go_at_call 30; with_reducible exact ext_call (CB _ ((hS4.on (bl_alloc (Below.refl _ _) _)).on (Ext.h _)))) | (go_at_call 30; with_reducible exact ext_call (CC _ ((hS4.on (bl_alloc (Below.refl _ _) _)).on (Ext.h _)))) | (go_at_call 18; with_reducible exact ext_call (VS _)) | (go_at_call 18; with_reducible exact ext_call (VA _)))))))
    clear hecr5
    refine wpQuiet_nil ?_
    rintro r5 ⟨⟨_, hbr5⟩, rfl⟩
    obtain ⟨hcr5, hfr5⟩ := bcell hbr5
    have hzr5 := hbr5.size
    try simp only [World.size_alloc, World.size_setCell, World.size_drew] at hzr5
    have hlr5w0 : w.heap.size < r5.heap.size := by omega
    have hlr5r30 : r3.heap.size < r5.heap.size := by omega
    have hlr5r40 : r4.heap.size < r5.heap.size := by omega
    have hS5 := (hS4.on (bl_alloc (Below.refl _ _) _)).on hbr5
    go_wp2_with fail
    have hecr6 := @Ext.cell
    refine wp_region_ext (by kernel_rfl) (by kernel_rfl) ?_
    repeat (first | go_big_quiet_skip | (go_big_quiet_want; go_big_quiet_op; first | go_big_quiet_on | (go_big_quiet_call ((first | fail | (go_at_call 20; exact ext_call (CU _)) | (go_at_call 28; exact ext_call (CD _ (hS5.on (Ext.h _)))))))))
    clear hecr6
    refine wpQuiet_nil ?_
    rintro r6 ⟨⟨_, hbr6⟩, rfl⟩
    obtain ⟨hcr6, hfr6⟩ := bcell hbr6
    have hzr6 := hbr6.size
    try simp only [World.size_alloc, World.size_setCell, World.size_drew] at hzr6
    have hlr6w0 : w.heap.size < r6.heap.size := by omega
    have hlr6r30 : r3.heap.size < r6.heap.size := by omega
    have hlr6r40 : r4.heap.size < r6.heap.size := by omega
    have hS6 := hS5.on hbr6
    go_wp2_with fail
    have hecr7 := @Ext.cell
    refine wp_region_ext (by kernel_rfl) (by kernel_rfl) ?_
    repeat (first | go_big_quiet_skip | (go_big_quiet_want; go_big_quiet_op; first | go_big_quiet_on | (go_big_quiet_call ((first | fail | (go_at_call 20; exact ext_call (CQ _)) | (go_at_call 28; exact ext_call (CR _ (hS6.on (Ext.h _)))))))))
    clear hecr7
    refine wpQuiet_nil ?_
    rintro r7 ⟨⟨_, hbr7⟩, rfl⟩
    obtain ⟨hcr7, hfr7⟩ := bcell hbr7
    have hzr7 := hbr7.size
    try simp only [World.size_alloc, World.size_setCell, World.size_drew] at hzr7
    have hlr7w0 : w.heap.size < r7.heap.size := by omega
    have hlr7r30 : r3.heap.size < r7.heap.size := by omega
    have hlr7r40 : r4.heap.size < r7.heap.size := by omega
    go_wp2
    go_ret
    exact ⟨rfl, (by repeat' (first | (with_reducible exact Below.refl _ _) | (with_reducible refine bl_set ?_ _ ?_) | (with_reducible refine bl_alloc ?_ _) | (with_reducible refine bl_drew ?_) | (with_reducible refine bl_via (by with_reducible assumption) ?_) | (with_reducible assumption) | omega | (simp only []; omega) | (simp; omega)))⟩

set_option maxHeartbeats 4000000 in
theorem turns_pos (x y : Int) (hx0 : 0 ≤ x) (hx1 : x < 65536) (hy0 : 0 ≤ y) (hy1 : y < 65536) (hn : ¬ (val x y).tmod 268435456 < 0) (w : World) (hS : Sines w) :
    Calls Tryd.prog 10 #[(.agg #[.int .u16 (x), .int .u16 (y)])] w fun e w' => e = .returned (.bool true) ∧ Below w.heap.size w w' := by
  obtain ⟨n0, n1, s0, s1, S, c0, c1, a0, a1, p0, p1, q0, q1, ⟨sa, sb⟩, ⟨ua, ub⟩, CN, CS, VS, CA, VA, CB, CC, CU, CD, hq⟩ := turns_facts x y ((val x y).tmod 268435456) hx0 hx1 hy0 hy1 (by rw [if_neg hn])
  have v0 := val_lo x y
  have v1 := val_hi x y
  obtain ⟨ta, tb, tc⟩ := tmod_same (val x y)
  have en : decide ((val x y).tmod 268435456 < 0) = false := decide_eq_false hn
  clear tc hn
  have heq := @eq_dbl
  have hq' : decide (134217728 < (val x y).tmod 268435456) = true ∨ decide (134217728 < (val x y).tmod 268435456) = false ∧ (∀ w, Calls Tryd.prog 20 #[.int .i64 (134217728 - ((val x y).tmod 268435456))] w fun e w' => e = .returned (.agg #[.int .u16 (q0), .int .u16 (q1)]) ∧ Below w.heap.size w w') ∧ (∀ w, Sines w → Calls Tryd.prog 28 #[(.agg #[.int .u16 (q0), .int .u16 (q1)])] w fun e w' => e = .returned (.agg #[.int .u16 (s0), .int .u16 (s1)]) ∧ Below w.heap.size w w') := by
    by_cases h : 134217728 < (val x y).tmod 268435456
    · exact .inl (decide_eq_true h)
    · exact .inr ⟨decide_eq_false h, hq h⟩
  clear hq
  rcases hq' with g | ⟨g, CQ, CR⟩
  · skip
    go_enter Tryd.func10, Tryd.ntmps10
    go_wp2_with fail
    refine (lives16 _ (hS.on (bl_alloc (Below.refl _ _) _))).mono ?_
    rintro _ r1 ⟨rfl, hbr1⟩
    obtain ⟨hcr1, hfr1⟩ := bcell hbr1
    have hzr1 := hbr1.size
    try simp only [World.size_alloc, World.size_setCell, World.size_drew] at hzr1
    have hlr1w0 : w.heap.size < r1.heap.size := by omega
    have hS1 := (hS.on (bl_alloc (Below.refl _ _) _)).on hbr1
    go_wp2_with fail
    refine (rvalue_any x y hx0 hx1 hy0 hy1 _).mono ?_
    rintro _ r2 ⟨rfl, hbr2⟩
    obtain ⟨hcr2, hfr2⟩ := bcell hbr2
    have hzr2 := hbr2.size
    try simp only [World.size_alloc, World.size_setCell, World.size_drew] at hzr2
    have hlr2w0 : w.heap.size < r2.heap.size := by omega
    have hS2 := hS1.on hbr2
    go_wp2_with fail
    refine (CN _).mono ?_
    rintro _ r3 ⟨rfl, hbr3⟩
    obtain ⟨hcr3, hfr3⟩ := bcell hbr3
    have hzr3 := hbr3.size
    try simp only [World.size_alloc, World.size_setCell, World.size_drew] at hzr3
    have hlr3w0 : w.heap.size < r3.heap.size := by omega
    have hS3 := hS2.on hbr3
    go_wp2_with fail
    refine (CS _ (hS3.on (bl_alloc (Below.refl _ _) _))).mono ?_
    rintro _ r4 ⟨rfl, hbr4⟩
    obtain ⟨hcr4, hfr4⟩ := bcell hbr4
    have hzr4 := hbr4.size
    try simp only [World.size_alloc, World.size_setCell, World.size_drew] at hzr4
    have hlr4w0 : w.heap.size < r4.heap.size := by omega
    have hlr4r30 : r3.heap.size < r4.heap.size := by omega
    have hS4 := (hS3.on (bl_alloc (Below.refl _ _) _)).on hbr4
    go_wp2_with fail
    have hecr5 := @Ext.cell
    refine wp_region_ext (by kernel_rfl) (by kernel_rfl) ?_
    repeat (first | go_big_quiet_skip | (go_big_quiet_want; go_big_quiet_op; first | go_big_quiet_on | (go_big_quiet_call ((first | fail | (go_at_call 28; exact ext_call (CA _ ((hS4.on (bl_alloc (Below.refl _ _) _)).on (Ext.h _)))) | (go_at_call 30; with_reducible exact ext_call (CB _ ((hS4.on (bl_alloc (Below.refl _ _) _)).on (Ext.h _)))) | (go_at_call 30; with_reducible exact ext_call (CC _ ((hS4.on (bl_alloc (Below.refl _ _) _)).on (Ext.h _)))) | (go_at_call 18; with_reducible exact ext_call (VS _)) | (go_at_call 18; with_reducible exact ext_call (VA _)))))))
    clear hecr5
    refine wpQuiet_nil ?_
    rintro r5 ⟨⟨_, hbr5⟩, rfl⟩
    obtain ⟨hcr5, hfr5⟩ := bcell hbr5
    have hzr5 := hbr5.size
    try simp only [World.size_alloc, World.size_setCell, World.size_drew] at hzr5
    have hlr5w0 : w.heap.size < r5.heap.size := by omega
    have hlr5r30 : r3.heap.size < r5.heap.size := by omega
    have hlr5r40 : r4.heap.size < r5.heap.size := by omega
    have hS5 := (hS4.on (bl_alloc (Below.refl _ _) _)).on hbr5
    go_wp2_with fail
    have hecr6 := @Ext.cell
    refine wp_region_ext (by kernel_rfl) (by kernel_rfl) ?_
    repeat (first | go_big_quiet_skip | (go_big_quiet_want; go_big_quiet_op; first | go_big_quiet_on | (go_big_quiet_call ((first | fail | (go_at_call 20; exact ext_call (CU _)) | (go_at_call 28; exact ext_call (CD _ (hS5.on (Ext.h _)))))))))
    clear hecr6
    refine wpQuiet_nil ?_
    rintro r6 ⟨⟨_, hbr6⟩, rfl⟩
    obtain ⟨hcr6, hfr6⟩ := bcell hbr6
    have hzr6 := hbr6.size
    try simp only [World.size_alloc, World.size_setCell, World.size_drew] at hzr6
    have hlr6w0 : w.heap.size < r6.heap.size := by omega
    have hlr6r30 : r3.heap.size < r6.heap.size := by omega
    have hlr6r40 : r4.heap.size < r6.heap.size := by omega
    have hS6 := hS5.on hbr6
    go_wp2_with fail
    have hecr7 := @Ext.cell
    refine wp_region_ext (by kernel_rfl) (by kernel_rfl) ?_
    repeat (first | go_big_quiet_skip | (go_big_quiet_want; go_big_quiet_op; first | go_big_quiet_on | (go_big_quiet_call ((first | fail | fail)))))
    clear hecr7
    refine wpQuiet_nil ?_
    rintro r7 ⟨⟨_, hbr7⟩, rfl⟩
    obtain ⟨hcr7, hfr7⟩ := bcell hbr7
    have hzr7 := hbr7.size
    try simp only [World.size_alloc, World.size_setCell, World.size_drew] at hzr7
    have hlr7w0 : w.heap.size < r7.heap.size := by omega
    have hlr7r30 : r3.heap.size < r7.heap.size := by omega
    have hlr7r40 : r4.heap.size < r7.heap.size := by omega
    go_wp2
    go_ret
    exact ⟨rfl, (by repeat' (first | (with_reducible exact Below.refl _ _) | (with_reducible refine bl_set ?_ _ ?_) | (with_reducible refine bl_alloc ?_ _) | (with_reducible refine bl_drew ?_) | (with_reducible refine bl_via (by with_reducible assumption) ?_) | (with_reducible assumption) | omega | (simp only []; omega) | (simp; omega)))⟩
  · skip
    go_enter Tryd.func10, Tryd.ntmps10
    go_wp2_with fail
    refine (lives16 _ (hS.on (bl_alloc (Below.refl _ _) _))).mono ?_
    rintro _ r1 ⟨rfl, hbr1⟩
    obtain ⟨hcr1, hfr1⟩ := bcell hbr1
    have hzr1 := hbr1.size
    try simp only [World.size_alloc, World.size_setCell, World.size_drew] at hzr1
    have hlr1w0 : w.heap.size < r1.heap.size := by omega
    have hS1 := (hS.on (bl_alloc (Below.refl _ _) _)).on hbr1
    go_wp2_with fail
    refine (rvalue_any x y hx0 hx1 hy0 hy1 _).mono ?_
    rintro _ r2 ⟨rfl, hbr2⟩
    obtain ⟨hcr2, hfr2⟩ := bcell hbr2
    have hzr2 := hbr2.size
    try simp only [World.size_alloc, World.size_setCell, World.size_drew] at hzr2
    have hlr2w0 : w.heap.size < r2.heap.size := by omega
    have hS2 := hS1.on hbr2
    go_wp2_with fail
    refine (CN _).mono ?_
    rintro _ r3 ⟨rfl, hbr3⟩
    obtain ⟨hcr3, hfr3⟩ := bcell hbr3
    have hzr3 := hbr3.size
    try simp only [World.size_alloc, World.size_setCell, World.size_drew] at hzr3
    have hlr3w0 : w.heap.size < r3.heap.size := by omega
    have hS3 := hS2.on hbr3
    go_wp2_with fail
    refine (CS _ (hS3.on (bl_alloc (Below.refl _ _) _))).mono ?_
    rintro _ r4 ⟨rfl, hbr4⟩
    obtain ⟨hcr4, hfr4⟩ := bcell hbr4
    have hzr4 := hbr4.size
    try simp only [World.size_alloc, World.size_setCell, World.size_drew] at hzr4
    have hlr4w0 : w.heap.size < r4.heap.size := by omega
    have hlr4r30 : r3.heap.size < r4.heap.size := by omega
    have hS4 := (hS3.on (bl_alloc (Below.refl _ _) _)).on hbr4
    go_wp2_with fail
    have hecr5 := @Ext.cell
    refine wp_region_ext (by kernel_rfl) (by kernel_rfl) ?_
    repeat (first | go_big_quiet_skip | (go_big_quiet_want; go_big_quiet_op; first | go_big_quiet_on | (go_big_quiet_call ((first | fail | (go_at_call 28; exact ext_call (CA _ ((hS4.on (bl_alloc (Below.refl _ _) _)).on (Ext.h _)))) | (go_at_call 30; with_reducible exact ext_call (CB _ ((hS4.on (bl_alloc (Below.refl _ _) _)).on (Ext.h _)))) | (go_at_call 30; with_reducible exact ext_call (CC _ ((hS4.on (bl_alloc (Below.refl _ _) _)).on (Ext.h _)))) | (go_at_call 18; with_reducible exact ext_call (VS _)) | (go_at_call 18; with_reducible exact ext_call (VA _)))))))
    clear hecr5
    refine wpQuiet_nil ?_
    rintro r5 ⟨⟨_, hbr5⟩, rfl⟩
    obtain ⟨hcr5, hfr5⟩ := bcell hbr5
    have hzr5 := hbr5.size
    try simp only [World.size_alloc, World.size_setCell, World.size_drew] at hzr5
    have hlr5w0 : w.heap.size < r5.heap.size := by omega
    have hlr5r30 : r3.heap.size < r5.heap.size := by omega
    have hlr5r40 : r4.heap.size < r5.heap.size := by omega
    have hS5 := (hS4.on (bl_alloc (Below.refl _ _) _)).on hbr5
    go_wp2_with fail
    have hecr6 := @Ext.cell
    refine wp_region_ext (by kernel_rfl) (by kernel_rfl) ?_
    repeat (first | go_big_quiet_skip | (go_big_quiet_want; go_big_quiet_op; first | go_big_quiet_on | (go_big_quiet_call ((first | fail | (go_at_call 20; exact ext_call (CU _)) | (go_at_call 28; exact ext_call (CD _ (hS5.on (Ext.h _)))))))))
    clear hecr6
    refine wpQuiet_nil ?_
    rintro r6 ⟨⟨_, hbr6⟩, rfl⟩
    obtain ⟨hcr6, hfr6⟩ := bcell hbr6
    have hzr6 := hbr6.size
    try simp only [World.size_alloc, World.size_setCell, World.size_drew] at hzr6
    have hlr6w0 : w.heap.size < r6.heap.size := by omega
    have hlr6r30 : r3.heap.size < r6.heap.size := by omega
    have hlr6r40 : r4.heap.size < r6.heap.size := by omega
    have hS6 := hS5.on hbr6
    go_wp2_with fail
    have hecr7 := @Ext.cell
    refine wp_region_ext (by kernel_rfl) (by kernel_rfl) ?_
    repeat (first | go_big_quiet_skip | (go_big_quiet_want; go_big_quiet_op; first | go_big_quiet_on | (go_big_quiet_call ((first | fail | (go_at_call 20; exact ext_call (CQ _)) | (go_at_call 28; exact ext_call (CR _ (hS6.on (Ext.h _)))))))))
    clear hecr7
    refine wpQuiet_nil ?_
    rintro r7 ⟨⟨_, hbr7⟩, rfl⟩
    obtain ⟨hcr7, hfr7⟩ := bcell hbr7
    have hzr7 := hbr7.size
    try simp only [World.size_alloc, World.size_setCell, World.size_drew] at hzr7
    have hlr7w0 : w.heap.size < r7.heap.size := by omega
    have hlr7r30 : r3.heap.size < r7.heap.size := by omega
    have hlr7r40 : r4.heap.size < r7.heap.size := by omega
    go_wp2
    go_ret
    exact ⟨rfl, (by repeat' (first | (with_reducible exact Below.refl _ _) | (with_reducible refine bl_set ?_ _ ?_) | (with_reducible refine bl_alloc ?_ _) | (with_reducible refine bl_drew ?_) | (with_reducible refine bl_via (by with_reducible assumption) ?_) | (with_reducible assumption) | omega | (simp only []; omega) | (simp; omega)))⟩

theorem turns_law (x y : Int) (hx0 : 0 ≤ x) (hx1 : x < 65536) (hy0 : 0 ≤ y) (hy1 : y < 65536) (w : World) (hS : Sines w) :
    Calls Tryd.prog 10 #[(.agg #[.int .u16 (x), .int .u16 (y)])] w fun e w' => e = .returned (.bool true) ∧ Below w.heap.size w w' := by
  by_cases h : (val x y).tmod 268435456 < 0
  · exact turns_neg x y hx0 hx1 hy0 hy1 h w hS
  · exact turns_pos x y hx0 hx1 hy0 hy1 h w hS
end Go.Proofs.YtccnflemopajcaaDoor
