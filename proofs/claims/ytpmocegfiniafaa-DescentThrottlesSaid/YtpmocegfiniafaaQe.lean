/- Contracts of Throttle by values, and of Valid, Allowed and Throttle of the reference, over this translation. -/
import Derived.Test.YtpmocegfiniafaaQd
namespace Go.Proofs.Ytpmocegfiniafaa
set_option linter.unusedSimpArgs false
set_option linter.unusedVariables false
open Go.RowKit

theorem nearv_bd (v a b : Int) (v0 : -268435455 ≤ v) (v1 : v ≤ 268435455) (a0 : -268435455 ≤ a) (a1 : a ≤ 268435455) (b0 : -268435455 ≤ b) (b1 : b ≤ 268435455) : -268435455 ≤ nearv v a b ∧ nearv v a b ≤ 268435455 := by
  unfold nearv; (repeat' split) <;> omega
theorem cmpw (a b : Int) (a0 : -268435455 ≤ a) (a1 : a ≤ 268435455) (b0 : -268435455 ≤ b) (b1 : b ≤ 268435455) (w : World) :
    Calls Try.prog 46 #[(.agg #[.int .u16 (hi (a)), .int .u16 (lo (a))]), (.agg #[.int .u16 (hi (b)), .int .u16 (lo (b))])] w fun e w' => e = .returned (.int .i64 (cmpv a b)) ∧ Below w.heap.size w w' := by
  have x := hi_lo a a0 a1
  have y := hi_lo b b0 b1
  have h := cmp_any (hi a) (lo a) (hi b) (lo b) (by omega) (by omega) (by omega) (by omega) (by omega) (by omega) (by omega) (by omega) w
  rwa [val_of a a0 a1, val_of b b0 b1] at h
theorem cmp0 (b : Int) (b0 : -268435455 ≤ b) (b1 : b ≤ 268435455) (w : World) :
    Calls Try.prog 46 #[(.agg #[.int .u16 (0), .int .u16 (0)]), (.agg #[.int .u16 (hi (b)), .int .u16 (lo (b))])] w fun e w' => e = .returned (.int .i64 (cmpv 0 b)) ∧ Below w.heap.size w w' := by
  have h := cmpw 0 b (by omega) (by omega) b0 b1 w
  rwa [show hi 0 = 0 from rfl, show lo 0 = 0 from rfl] at h
theorem cmpv_gt (a b : Int) : decide (0 < cmpv a b) = decide (b < a) := by
  apply decide_eq_decide.2
  unfold cmpv
  (repeat' split) <;> omega
theorem valw (a : Int) (a0 : -268435455 ≤ a) (a1 : a ≤ 268435455) (w : World) :
    Calls Try.prog 29 #[(.agg #[.int .u16 (hi (a)), .int .u16 (lo (a))])] w fun e w' => e = .returned (.int .i64 a) ∧ Below w.heap.size w w' := by
  have x := hi_lo a a0 a1
  have h := value_any (hi a) (lo a) (by omega) (by omega) (by omega) (by omega) w
  rwa [val_of a a0 a1] at h
theorem throttle_bad (v0 v1 e0 e1 e2 e3 e4 e5 e6 e7 : Int) (hv00 : 0 ≤ v0) (hv01 : v0 < 65536) (hv10 : 0 ≤ v1) (hv11 : v1 < 65536) (he00 : 0 ≤ e0) (he01 : e0 < 65536) (he10 : 0 ≤ e1) (he11 : e1 < 65536) (he20 : 0 ≤ e2) (he21 : e2 < 65536) (he30 : 0 ≤ e3) (he31 : e3 < 65536) (he40 : 0 ≤ e4) (he41 : e4 < 65536) (he50 : 0 ≤ e5) (he51 : e5 < 65536) (he60 : 0 ≤ e6) (he61 : e6 < 65536) (he70 : 0 ≤ e7) (he71 : e7 < 65536) (h : ¬ (0 ≤ val e0 e1 ∧ val e0 e1 ≤ val e2 e3 ∧ val e2 e3 ≤ val e4 e5 ∧ val e4 e5 ≤ val e6 e7)) (w : World) :
    Calls Try.prog 18 #[(.agg #[.int .u16 (e0), .int .u16 (e1), .int .u16 (e2), .int .u16 (e3), .int .u16 (e4), .int .u16 (e5), .int .u16 (e6), .int .u16 (e7)]), (.agg #[.int .u16 (v0), .int .u16 (v1)])] w fun e w' => e = .returned (.tuple #[(.agg #[.int .u16 (0), .int .u16 (0)]), .int .i64 2]) ∧ Below w.heap.size w w' := by
  have l0 := val_lo e0 e1
  have g0 := val_hi e0 e1
  have l1 := val_lo e2 e3
  have g1 := val_hi e2 e3
  have l2 := val_lo e4 e5
  have g2 := val_hi e4 e5
  have l3 := val_lo e6 e7
  have g3 := val_hi e6 e7
  by_cases h0 : val e0 e1 < 0
  · exact thr_0 _ _ _ _ _ _ _ _ _ _ _ _ _ _ _ _ _ _ _ 0 0 0 (canon_any e0 e1 he00 he01 he10 he11) (canon_any e2 e3 he20 he21 he30 he31) (canon_any e4 e5 he40 he41 he50 he51) (canon_any e6 e7 he60 he61 he70 he71) (cmp0 _ l0 g0) (by rw [cmpv_gt]; exact decide_eq_true h0) w
  · skip
    by_cases h1 : val e2 e3 < val e0 e1
    · exact thr_1 _ _ _ _ _ _ _ _ _ _ _ _ _ _ _ _ _ _ _ _ 0 0 (canon_any e0 e1 he00 he01 he10 he11) (canon_any e2 e3 he20 he21 he30 he31) (canon_any e4 e5 he40 he41 he50 he51) (canon_any e6 e7 he60 he61 he70 he71) (cmp0 _ l0 g0) (by rw [cmpv_gt]; exact decide_eq_false h0) (cmpw _ _ l0 g0 l1 g1) (by rw [cmpv_gt]; exact decide_eq_true h1) w
    · skip
      by_cases h2 : val e4 e5 < val e2 e3
      · exact thr_2 _ _ _ _ _ _ _ _ _ _ _ _ _ _ _ _ _ _ _ _ _ 0 (canon_any e0 e1 he00 he01 he10 he11) (canon_any e2 e3 he20 he21 he30 he31) (canon_any e4 e5 he40 he41 he50 he51) (canon_any e6 e7 he60 he61 he70 he71) (cmp0 _ l0 g0) (by rw [cmpv_gt]; exact decide_eq_false h0) (cmpw _ _ l0 g0 l1 g1) (by rw [cmpv_gt]; exact decide_eq_false h1) (cmpw _ _ l1 g1 l2 g2) (by rw [cmpv_gt]; exact decide_eq_true h2) w
      · skip
        by_cases h3 : val e6 e7 < val e4 e5
        · exact thr_3 _ _ _ _ _ _ _ _ _ _ _ _ _ _ _ _ _ _ _ _ _ _ (canon_any e0 e1 he00 he01 he10 he11) (canon_any e2 e3 he20 he21 he30 he31) (canon_any e4 e5 he40 he41 he50 he51) (canon_any e6 e7 he60 he61 he70 he71) (cmp0 _ l0 g0) (by rw [cmpv_gt]; exact decide_eq_false h0) (cmpw _ _ l0 g0 l1 g1) (by rw [cmpv_gt]; exact decide_eq_false h1) (cmpw _ _ l1 g1 l2 g2) (by rw [cmpv_gt]; exact decide_eq_false h2) (cmpw _ _ l2 g2 l3 g3) (by rw [cmpv_gt]; exact decide_eq_true h3) w
        · exact absurd ⟨by omega, by omega, by omega, by omega⟩ h
theorem throttle_any (v0 v1 e0 e1 e2 e3 e4 e5 e6 e7 : Int) (hv00 : 0 ≤ v0) (hv01 : v0 < 65536) (hv10 : 0 ≤ v1) (hv11 : v1 < 65536) (he00 : 0 ≤ e0) (he01 : e0 < 65536) (he10 : 0 ≤ e1) (he11 : e1 < 65536) (he20 : 0 ≤ e2) (he21 : e2 < 65536) (he30 : 0 ≤ e3) (he31 : e3 < 65536) (he40 : 0 ≤ e4) (he41 : e4 < 65536) (he50 : 0 ≤ e5) (he51 : e5 < 65536) (he60 : 0 ≤ e6) (he61 : e6 < 65536) (he70 : 0 ≤ e7) (he71 : e7 < 65536) (h : 0 ≤ val e0 e1 ∧ val e0 e1 ≤ val e2 e3 ∧ val e2 e3 ≤ val e4 e5 ∧ val e4 e5 ≤ val e6 e7) (w : World) :
    Calls Try.prog 18 #[(.agg #[.int .u16 (e0), .int .u16 (e1), .int .u16 (e2), .int .u16 (e3), .int .u16 (e4), .int .u16 (e5), .int .u16 (e6), .int .u16 (e7)]), (.agg #[.int .u16 (v0), .int .u16 (v1)])] w fun e w' => e = .returned (.tuple #[(.agg #[.int .u16 (hi (thrv (val v0 v1) (val e0 e1) (val e2 e3) (val e4 e5) (val e6 e7))), .int .u16 (lo (thrv (val v0 v1) (val e0 e1) (val e2 e3) (val e4 e5) (val e6 e7)))]), .int .i64 0]) ∧ Below w.heap.size w w' := by
  have l0 := val_lo e0 e1
  have g0 := val_hi e0 e1
  have l1 := val_lo e2 e3
  have g1 := val_hi e2 e3
  have l2 := val_lo e4 e5
  have g2 := val_hi e4 e5
  have l3 := val_lo e6 e7
  have g3 := val_hi e6 e7
  have vl := val_lo v0 v1
  have vh := val_hi v0 v1
  obtain ⟨A0, A1⟩ := nearv_bd (val v0 v1) (val e0 e1) (val e2 e3) vl vh l0 g0 l1 g1
  obtain ⟨B0, B1⟩ := nearv_bd (val v0 v1) (val e4 e5) (val e6 e7) vl vh l2 g2 l3 g3
  have k := thr_4 v0 v1 e0 e1 e2 e3 e4 e5 e6 e7 (hi (val e0 e1)) (lo (val e0 e1)) (hi (val e2 e3)) (lo (val e2 e3)) (hi (val e4 e5)) (lo (val e4 e5)) (hi (val e6 e7)) (lo (val e6 e7)) _ _ _ _ (val v0 v1) (nearv (val v0 v1) (val e0 e1) (val e2 e3)) (nearv (val v0 v1) (val e4 e5) (val e6 e7)) _ _ _ _ _ (canon_any e0 e1 he00 he01 he10 he11) (canon_any e2 e3 he20 he21 he30 he31) (canon_any e4 e5 he40 he41 he50 he51) (canon_any e6 e7 he60 he61 he70 he71) (cmp0 _ l0 g0) (by rw [cmpv_gt]; exact decide_eq_false (by omega)) (cmpw _ _ l0 g0 l1 g1) (by rw [cmpv_gt]; exact decide_eq_false (by omega)) (cmpw _ _ l1 g1 l2 g2) (by rw [cmpv_gt]; exact decide_eq_false (by omega)) (cmpw _ _ l2 g2 l3 g3) (by rw [cmpv_gt]; exact decide_eq_false (by omega)) A0 A1 B0 B1 vl vh
    (fun bw bs w x0 x1 p0 p1 q0 q1 lw ls => thc_1 v0 v1 _ _ hv00 hv01 hv10 hv11 l0 g0 l1 g1 bw bs w x0 x1 p0 p1 q0 q1 lw ls) (fun bw bs w x0 x1 p0 p1 q0 q1 lw ls => thc_3 v0 v1 _ _ hv00 hv01 hv10 hv11 l2 g2 l3 g3 bw bs w x0 x1 p0 p1 q0 q1 lw ls)
    (value_any v0 v1 hv00 hv01 hv10 hv11) (valw _ A0 A1) (valw _ B0 B1) rfl w
  refine k.mono fun e W ⟨he, hb⟩ => ⟨he.trans ?_, hb⟩
  unfold thrv
  by_cases c : max (val v0 v1 - nearv (val v0 v1) (val e0 e1) (val e2 e3)) (nearv (val v0 v1) (val e0 e1) (val e2 e3) - val v0 v1) ≤ max (val v0 v1 - nearv (val v0 v1) (val e4 e5) (val e6 e7)) (nearv (val v0 v1) (val e4 e5) (val e6 e7) - val v0 v1)
  · simp only [c, decide_true, if_true]
  · simp only [c, decide_false, if_false, Bool.false_eq_true]
set_option maxHeartbeats 4000000 in
theorem valid_yes (e0 e1 e2 e3 e4 e5 e6 e7 : Int) (he00 : 0 ≤ e0) (he01 : e0 < 65536) (he10 : 0 ≤ e1) (he11 : e1 < 65536) (he20 : 0 ≤ e2) (he21 : e2 < 65536) (he30 : 0 ≤ e3) (he31 : e3 < 65536) (he40 : 0 ≤ e4) (he41 : e4 < 65536) (he50 : 0 ≤ e5) (he51 : e5 < 65536) (he60 : 0 ≤ e6) (he61 : e6 < 65536) (he70 : 0 ≤ e7) (he71 : e7 < 65536) (h : 0 ≤ val e0 e1 ∧ val e0 e1 ≤ val e2 e3 ∧ val e2 e3 ≤ val e4 e5 ∧ val e4 e5 ≤ val e6 e7) (w : World) :
    Calls Try.prog 19 #[(.agg #[.int .u16 (e0), .int .u16 (e1), .int .u16 (e2), .int .u16 (e3), .int .u16 (e4), .int .u16 (e5), .int .u16 (e6), .int .u16 (e7)])] w fun e w' => e = .returned (.bool true) ∧ Below w.heap.size w w' := by
  have l0 := val_lo e0 e1
  have g0 := val_hi e0 e1
  have l1 := val_lo e2 e3
  have g1 := val_hi e2 e3
  have l2 := val_lo e4 e5
  have g2 := val_hi e4 e5
  have l3 := val_lo e6 e7
  have g3 := val_hi e6 e7
  obtain ⟨h0, h1, h2, h3⟩ := h
  have d0 : decide (0 ≤ val e0 e1) = true := decide_eq_true h0
  have d1 : decide (val e0 e1 ≤ val e2 e3) = true := decide_eq_true h1
  have d2 : decide (val e2 e3 ≤ val e4 e5) = true := decide_eq_true h2
  have d3 : decide (val e4 e5 ≤ val e6 e7) = true := decide_eq_true h3
  clear h0 h1 h2 h3
  go_enter Try.func19, Try.ntmps19
  go_wp2_with fail
  have hecr1 := @Ext.cell
  refine wp_region_ext (by kernel_rfl) (by kernel_rfl) ?_
  repeat (first | go_big_quiet_skip | (go_big_quiet_want; go_big_quiet_op; first | go_big_quiet_on | (go_big_quiet_call ((first | fail | (go_at_call 12; exact ext_call (rvalue_any _ _ (by assumption) (by assumption) (by assumption) (by assumption) _)))))))
  clear hecr1
  refine wpQuiet_nil ?_
  rintro r1 ⟨⟨_, hbr1⟩, rfl⟩
  obtain ⟨hcr1, hfr1⟩ := bcell hbr1
  have hzr1 := hbr1.size
  try simp only [World.size_alloc, World.size_setCell, World.size_drew] at hzr1
  have hlr1w0 : w.heap.size < r1.heap.size := by omega
  go_wp2
  go_ret
  exact ⟨rfl, (by repeat' (first | (with_reducible exact Below.refl _ _) | (with_reducible refine bl_set ?_ _ ?_) | (with_reducible refine bl_alloc ?_ _) | (with_reducible refine bl_drew ?_) | (with_reducible refine bl_via (by with_reducible assumption) ?_) | (with_reducible assumption) | omega | (simp only []; omega) | (simp; omega)))⟩
set_option maxHeartbeats 4000000 in
theorem valid_no (e0 e1 e2 e3 e4 e5 e6 e7 : Int) (he00 : 0 ≤ e0) (he01 : e0 < 65536) (he10 : 0 ≤ e1) (he11 : e1 < 65536) (he20 : 0 ≤ e2) (he21 : e2 < 65536) (he30 : 0 ≤ e3) (he31 : e3 < 65536) (he40 : 0 ≤ e4) (he41 : e4 < 65536) (he50 : 0 ≤ e5) (he51 : e5 < 65536) (he60 : 0 ≤ e6) (he61 : e6 < 65536) (he70 : 0 ≤ e7) (he71 : e7 < 65536) (h : ¬ (0 ≤ val e0 e1 ∧ val e0 e1 ≤ val e2 e3 ∧ val e2 e3 ≤ val e4 e5 ∧ val e4 e5 ≤ val e6 e7)) (w : World) :
    Calls Try.prog 19 #[(.agg #[.int .u16 (e0), .int .u16 (e1), .int .u16 (e2), .int .u16 (e3), .int .u16 (e4), .int .u16 (e5), .int .u16 (e6), .int .u16 (e7)])] w fun e w' => e = .returned (.bool false) ∧ Below w.heap.size w w' := by
  have l0 := val_lo e0 e1
  have g0 := val_hi e0 e1
  have l1 := val_lo e2 e3
  have g1 := val_hi e2 e3
  have l2 := val_lo e4 e5
  have g2 := val_hi e4 e5
  have l3 := val_lo e6 e7
  have g3 := val_hi e6 e7
  have hb : ∀ b0 b1 b2 b3 : Bool, decide (0 ≤ val e0 e1) = b0 → decide (val e0 e1 ≤ val e2 e3) = b1 → decide (val e2 e3 ≤ val e4 e5) = b2 → decide (val e4 e5 ≤ val e6 e7) = b3 → (b0 && b1 && b2 && b3) = false → Calls Try.prog 19 #[(.agg #[.int .u16 (e0), .int .u16 (e1), .int .u16 (e2), .int .u16 (e3), .int .u16 (e4), .int .u16 (e5), .int .u16 (e6), .int .u16 (e7)])] w fun e w' => e = .returned (.bool false) ∧ Below w.heap.size w w' := by
    clear h
    intro b0 b1 b2 b3 d0 d1 d2 d3 hb
    cases b0 <;> cases b1 <;> cases b2 <;> cases b3 <;> simp at hb
    all_goals
      skip
      go_enter Try.func19, Try.ntmps19
      go_wp2_with fail
      have hecr1 := @Ext.cell
      refine wp_region_ext (by kernel_rfl) (by kernel_rfl) ?_
      repeat (first | go_big_quiet_skip | (go_big_quiet_want; go_big_quiet_op; first | go_big_quiet_on | (go_big_quiet_call ((first | fail | (go_at_call 12; exact ext_call (rvalue_any _ _ (by assumption) (by assumption) (by assumption) (by assumption) _)))))))
      clear hecr1
      refine wpQuiet_nil ?_
      rintro r1 ⟨⟨_, hbr1⟩, rfl⟩
      obtain ⟨hcr1, hfr1⟩ := bcell hbr1
      have hzr1 := hbr1.size
      try simp only [World.size_alloc, World.size_setCell, World.size_drew] at hzr1
      have hlr1w0 : w.heap.size < r1.heap.size := by omega
      go_wp2
      go_ret
      exact ⟨rfl, (by repeat' (first | (with_reducible exact Below.refl _ _) | (with_reducible refine bl_set ?_ _ ?_) | (with_reducible refine bl_alloc ?_ _) | (with_reducible refine bl_drew ?_) | (with_reducible refine bl_via (by with_reducible assumption) ?_) | (with_reducible assumption) | omega | (simp only []; omega) | (simp; omega)))⟩
  refine hb _ _ _ _ rfl rfl rfl rfl ?_
  cases x : (decide (0 ≤ val e0 e1) && decide (val e0 e1 ≤ val e2 e3) && decide (val e2 e3 ≤ val e4 e5) && decide (val e4 e5 ≤ val e6 e7))
  · rfl
  · simp only [Bool.and_eq_true, decide_eq_true_eq] at x
    exact absurd ⟨x.1.1.1, x.1.1.2, x.1.2, x.2⟩ h

/-- Is x an allowed setting? -/
def alw (x a b c d : Int) : Bool := (decide (a ≤ x) && decide (x ≤ b)) || (decide (c ≤ x) && decide (x ≤ d))
set_option maxHeartbeats 4000000 in
theorem allowed_any (x e0 e1 e2 e3 e4 e5 e6 e7 : Int) (he00 : 0 ≤ e0) (he01 : e0 < 65536) (he10 : 0 ≤ e1) (he11 : e1 < 65536) (he20 : 0 ≤ e2) (he21 : e2 < 65536) (he30 : 0 ≤ e3) (he31 : e3 < 65536) (he40 : 0 ≤ e4) (he41 : e4 < 65536) (he50 : 0 ≤ e5) (he51 : e5 < 65536) (he60 : 0 ≤ e6) (he61 : e6 < 65536) (he70 : 0 ≤ e7) (he71 : e7 < 65536) (w : World) :
    Calls Try.prog 21 #[(.agg #[.int .u16 (e0), .int .u16 (e1), .int .u16 (e2), .int .u16 (e3), .int .u16 (e4), .int .u16 (e5), .int .u16 (e6), .int .u16 (e7)]), .int .i64 x] w fun e w' => e = .returned (.bool (alw x (val e0 e1) (val e2 e3) (val e4 e5) (val e6 e7))) ∧ Below w.heap.size w w' := by
  have l0 := val_lo e0 e1
  have g0 := val_hi e0 e1
  have l1 := val_lo e2 e3
  have g1 := val_hi e2 e3
  have l2 := val_lo e4 e5
  have g2 := val_hi e4 e5
  have l3 := val_lo e6 e7
  have g3 := val_hi e6 e7
  generalize ha : decide (val e0 e1 ≤ x) = a
  generalize hb : decide (x ≤ val e2 e3) = b
  generalize hc : decide (val e4 e5 ≤ x) = c
  generalize hd : decide (x ≤ val e6 e7) = d
  have hr : alw x (val e0 e1) (val e2 e3) (val e4 e5) (val e6 e7) = ((a && b) || (c && d)) := by rw [← ha, ← hb, ← hc, ← hd]; rfl
  rw [hr]
  clear hr
  cases a
  · cases c
    · skip
      go_enter Try.func21, Try.ntmps21
      go_wp2_with fail
      refine (rvalue_any e0 e1 he00 he01 he10 he11 _).mono ?_
      rintro _ r1 ⟨rfl, hbr1⟩
      obtain ⟨hcr1, hfr1⟩ := bcell hbr1
      have hzr1 := hbr1.size
      try simp only [World.size_alloc, World.size_setCell, World.size_drew] at hzr1
      have hlr1w0 : w.heap.size < r1.heap.size := by omega
      go_wp2_with fail
      refine (rvalue_any e4 e5 he40 he41 he50 he51 _).mono ?_
      rintro _ r2 ⟨rfl, hbr2⟩
      obtain ⟨hcr2, hfr2⟩ := bcell hbr2
      have hzr2 := hbr2.size
      try simp only [World.size_alloc, World.size_setCell, World.size_drew] at hzr2
      have hlr2w0 : w.heap.size < r2.heap.size := by omega
      go_wp2
      go_ret
      exact ⟨rfl, (by repeat' (first | (with_reducible exact Below.refl _ _) | (with_reducible refine bl_set ?_ _ ?_) | (with_reducible refine bl_alloc ?_ _) | (with_reducible refine bl_drew ?_) | (with_reducible refine bl_via (by with_reducible assumption) ?_) | (with_reducible assumption) | omega | (simp only []; omega) | (simp; omega)))⟩
    · cases d
      all_goals
        skip
        go_enter Try.func21, Try.ntmps21
        go_wp2_with fail
        refine (rvalue_any e0 e1 he00 he01 he10 he11 _).mono ?_
        rintro _ r1 ⟨rfl, hbr1⟩
        obtain ⟨hcr1, hfr1⟩ := bcell hbr1
        have hzr1 := hbr1.size
        try simp only [World.size_alloc, World.size_setCell, World.size_drew] at hzr1
        have hlr1w0 : w.heap.size < r1.heap.size := by omega
        go_wp2_with fail
        refine (rvalue_any e4 e5 he40 he41 he50 he51 _).mono ?_
        rintro _ r2 ⟨rfl, hbr2⟩
        obtain ⟨hcr2, hfr2⟩ := bcell hbr2
        have hzr2 := hbr2.size
        try simp only [World.size_alloc, World.size_setCell, World.size_drew] at hzr2
        have hlr2w0 : w.heap.size < r2.heap.size := by omega
        go_wp2_with fail
        refine (rvalue_any e6 e7 he60 he61 he70 he71 _).mono ?_
        rintro _ r3 ⟨rfl, hbr3⟩
        obtain ⟨hcr3, hfr3⟩ := bcell hbr3
        have hzr3 := hbr3.size
        try simp only [World.size_alloc, World.size_setCell, World.size_drew] at hzr3
        have hlr3w0 : w.heap.size < r3.heap.size := by omega
        go_wp2
        go_ret
        exact ⟨rfl, (by repeat' (first | (with_reducible exact Below.refl _ _) | (with_reducible refine bl_set ?_ _ ?_) | (with_reducible refine bl_alloc ?_ _) | (with_reducible refine bl_drew ?_) | (with_reducible refine bl_via (by with_reducible assumption) ?_) | (with_reducible assumption) | omega | (simp only []; omega) | (simp; omega)))⟩
  · cases b
    · cases c
      · skip
        go_enter Try.func21, Try.ntmps21
        go_wp2_with fail
        refine (rvalue_any e0 e1 he00 he01 he10 he11 _).mono ?_
        rintro _ r1 ⟨rfl, hbr1⟩
        obtain ⟨hcr1, hfr1⟩ := bcell hbr1
        have hzr1 := hbr1.size
        try simp only [World.size_alloc, World.size_setCell, World.size_drew] at hzr1
        have hlr1w0 : w.heap.size < r1.heap.size := by omega
        go_wp2_with fail
        refine (rvalue_any e2 e3 he20 he21 he30 he31 _).mono ?_
        rintro _ r2 ⟨rfl, hbr2⟩
        obtain ⟨hcr2, hfr2⟩ := bcell hbr2
        have hzr2 := hbr2.size
        try simp only [World.size_alloc, World.size_setCell, World.size_drew] at hzr2
        have hlr2w0 : w.heap.size < r2.heap.size := by omega
        go_wp2_with fail
        refine (rvalue_any e4 e5 he40 he41 he50 he51 _).mono ?_
        rintro _ r3 ⟨rfl, hbr3⟩
        obtain ⟨hcr3, hfr3⟩ := bcell hbr3
        have hzr3 := hbr3.size
        try simp only [World.size_alloc, World.size_setCell, World.size_drew] at hzr3
        have hlr3w0 : w.heap.size < r3.heap.size := by omega
        go_wp2
        go_ret
        exact ⟨rfl, (by repeat' (first | (with_reducible exact Below.refl _ _) | (with_reducible refine bl_set ?_ _ ?_) | (with_reducible refine bl_alloc ?_ _) | (with_reducible refine bl_drew ?_) | (with_reducible refine bl_via (by with_reducible assumption) ?_) | (with_reducible assumption) | omega | (simp only []; omega) | (simp; omega)))⟩
      · cases d
        all_goals
          skip
          go_enter Try.func21, Try.ntmps21
          go_wp2_with fail
          refine (rvalue_any e0 e1 he00 he01 he10 he11 _).mono ?_
          rintro _ r1 ⟨rfl, hbr1⟩
          obtain ⟨hcr1, hfr1⟩ := bcell hbr1
          have hzr1 := hbr1.size
          try simp only [World.size_alloc, World.size_setCell, World.size_drew] at hzr1
          have hlr1w0 : w.heap.size < r1.heap.size := by omega
          go_wp2_with fail
          refine (rvalue_any e2 e3 he20 he21 he30 he31 _).mono ?_
          rintro _ r2 ⟨rfl, hbr2⟩
          obtain ⟨hcr2, hfr2⟩ := bcell hbr2
          have hzr2 := hbr2.size
          try simp only [World.size_alloc, World.size_setCell, World.size_drew] at hzr2
          have hlr2w0 : w.heap.size < r2.heap.size := by omega
          go_wp2_with fail
          refine (rvalue_any e4 e5 he40 he41 he50 he51 _).mono ?_
          rintro _ r3 ⟨rfl, hbr3⟩
          obtain ⟨hcr3, hfr3⟩ := bcell hbr3
          have hzr3 := hbr3.size
          try simp only [World.size_alloc, World.size_setCell, World.size_drew] at hzr3
          have hlr3w0 : w.heap.size < r3.heap.size := by omega
          go_wp2_with fail
          refine (rvalue_any e6 e7 he60 he61 he70 he71 _).mono ?_
          rintro _ r4 ⟨rfl, hbr4⟩
          obtain ⟨hcr4, hfr4⟩ := bcell hbr4
          have hzr4 := hbr4.size
          try simp only [World.size_alloc, World.size_setCell, World.size_drew] at hzr4
          have hlr4w0 : w.heap.size < r4.heap.size := by omega
          go_wp2
          go_ret
          exact ⟨rfl, (by repeat' (first | (with_reducible exact Below.refl _ _) | (with_reducible refine bl_set ?_ _ ?_) | (with_reducible refine bl_alloc ?_ _) | (with_reducible refine bl_drew ?_) | (with_reducible refine bl_via (by with_reducible assumption) ?_) | (with_reducible assumption) | omega | (simp only []; omega) | (simp; omega)))⟩
    · skip
      go_enter Try.func21, Try.ntmps21
      go_wp2_with fail
      refine (rvalue_any e0 e1 he00 he01 he10 he11 _).mono ?_
      rintro _ r1 ⟨rfl, hbr1⟩
      obtain ⟨hcr1, hfr1⟩ := bcell hbr1
      have hzr1 := hbr1.size
      try simp only [World.size_alloc, World.size_setCell, World.size_drew] at hzr1
      have hlr1w0 : w.heap.size < r1.heap.size := by omega
      go_wp2_with fail
      refine (rvalue_any e2 e3 he20 he21 he30 he31 _).mono ?_
      rintro _ r2 ⟨rfl, hbr2⟩
      obtain ⟨hcr2, hfr2⟩ := bcell hbr2
      have hzr2 := hbr2.size
      try simp only [World.size_alloc, World.size_setCell, World.size_drew] at hzr2
      have hlr2w0 : w.heap.size < r2.heap.size := by omega
      go_wp2
      go_ret
      exact ⟨rfl, (by repeat' (first | (with_reducible exact Below.refl _ _) | (with_reducible refine bl_set ?_ _ ?_) | (with_reducible refine bl_alloc ?_ _) | (with_reducible refine bl_drew ?_) | (with_reducible refine bl_via (by with_reducible assumption) ?_) | (with_reducible assumption) | omega | (simp only []; omega) | (simp; omega)))⟩
set_option maxHeartbeats 4000000 in
theorem rthr_0 (v0 v1 e0 e1 e2 e3 e4 e5 e6 e7 : Int) (hv00 : 0 ≤ v0) (hv01 : v0 < 65536) (hv10 : 0 ≤ v1) (hv11 : v1 < 65536) (he00 : 0 ≤ e0) (he01 : e0 < 65536) (he10 : 0 ≤ e1) (he11 : e1 < 65536) (he20 : 0 ≤ e2) (he21 : e2 < 65536) (he30 : 0 ≤ e3) (he31 : e3 < 65536) (he40 : 0 ≤ e4) (he41 : e4 < 65536) (he50 : 0 ≤ e5) (he51 : e5 < 65536) (he60 : 0 ≤ e6) (he61 : e6 < 65536) (he70 : 0 ≤ e7) (he71 : e7 < 65536) (p : decide (val v0 v1 < val e0 e1) = true) (w : World) :
    Calls Try.prog 20 #[(.agg #[.int .u16 (e0), .int .u16 (e1), .int .u16 (e2), .int .u16 (e3), .int .u16 (e4), .int .u16 (e5), .int .u16 (e6), .int .u16 (e7)]), (.agg #[.int .u16 (v0), .int .u16 (v1)])] w fun e w' => e = .returned (.agg #[.int .u16 (hi (val e0 e1)), .int .u16 (lo (val e0 e1))]) ∧ Below w.heap.size w w' := by
  have l0 := val_lo e0 e1
  have g0 := val_hi e0 e1
  have l1 := val_lo e2 e3
  have g1 := val_hi e2 e3
  have l2 := val_lo e4 e5
  have g2 := val_hi e4 e5
  have l3 := val_lo e6 e7
  have g3 := val_hi e6 e7
  have vl := val_lo v0 v1
  have vh := val_hi v0 v1
  go_enter Try.func20, Try.ntmps20
  go_wp2_with fail
  refine (rvalue_any v0 v1 hv00 hv01 hv10 hv11 _).mono ?_
  rintro _ r1 ⟨rfl, hbr1⟩
  obtain ⟨hcr1, hfr1⟩ := bcell hbr1
  have hzr1 := hbr1.size
  try simp only [World.size_alloc, World.size_setCell, World.size_drew] at hzr1
  have hlr1w0 : w.heap.size < r1.heap.size := by omega
  have hlr1w1 : w.heap.size + 1 < r1.heap.size := by omega
  have hlr1w2 : w.heap.size + 1 + 1 < r1.heap.size := by omega
  go_wp2_with fail
  have hecr2 := @Ext.cell
  refine wp_region_ext (by kernel_rfl) (by kernel_rfl) ?_
  repeat (first | go_big_quiet_skip | (go_big_quiet_want; go_big_quiet_op; first | go_big_quiet_on | (go_big_quiet_call ((first | fail | (go_at_call 12; exact ext_call (rvalue_any _ _ (by assumption) (by assumption) (by assumption) (by assumption) _)))))))
  clear hecr2
  refine wpQuiet_nil ?_
  rintro r2 ⟨⟨_, hbr2⟩, rfl⟩
  obtain ⟨hcr2, hfr2⟩ := bcell hbr2
  have hzr2 := hbr2.size
  try simp only [World.size_alloc, World.size_setCell, World.size_drew] at hzr2
  have hlr2w0 : w.heap.size < r2.heap.size := by omega
  have hlr2w1 : w.heap.size + 1 < r2.heap.size := by omega
  have hlr2w2 : w.heap.size + 1 + 1 < r2.heap.size := by omega
  go_wp2_with fail
  refine (rdouble_any (val e0 e1) (by omega) (by omega) _).mono ?_
  rintro _ r3 ⟨rfl, hbr3⟩
  obtain ⟨hcr3, hfr3⟩ := bcell hbr3
  have hzr3 := hbr3.size
  try simp only [World.size_alloc, World.size_setCell, World.size_drew] at hzr3
  have hlr3w0 : w.heap.size < r3.heap.size := by omega
  have hlr3w1 : w.heap.size + 1 < r3.heap.size := by omega
  have hlr3w2 : w.heap.size + 1 + 1 < r3.heap.size := by omega
  go_wp2
  refine bodyPost_ret (v := (.agg #[.int .u16 (hi (val e0 e1)), .int .u16 (lo (val e0 e1))])) (by simp [results, Try.results20, go_sem, *]) rfl ⟨rfl, ?_⟩; exact (by repeat' (first | (with_reducible exact Below.refl _ _) | (with_reducible refine bl_set ?_ _ ?_) | (with_reducible refine bl_alloc ?_ _) | (with_reducible refine bl_drew ?_) | (with_reducible refine bl_via (by with_reducible assumption) ?_) | (with_reducible assumption) | omega | (simp only []; omega) | (simp; omega)))
set_option maxHeartbeats 4000000 in
theorem rthr_1 (v0 v1 e0 e1 e2 e3 e4 e5 e6 e7 : Int) (hv00 : 0 ≤ v0) (hv01 : v0 < 65536) (hv10 : 0 ≤ v1) (hv11 : v1 < 65536) (he00 : 0 ≤ e0) (he01 : e0 < 65536) (he10 : 0 ≤ e1) (he11 : e1 < 65536) (he20 : 0 ≤ e2) (he21 : e2 < 65536) (he30 : 0 ≤ e3) (he31 : e3 < 65536) (he40 : 0 ≤ e4) (he41 : e4 < 65536) (he50 : 0 ≤ e5) (he51 : e5 < 65536) (he60 : 0 ≤ e6) (he61 : e6 < 65536) (he70 : 0 ≤ e7) (he71 : e7 < 65536) (p : decide (val v0 v1 < val e0 e1) = false) (q : decide (val e6 e7 < val v0 v1) = true) (w : World) :
    Calls Try.prog 20 #[(.agg #[.int .u16 (e0), .int .u16 (e1), .int .u16 (e2), .int .u16 (e3), .int .u16 (e4), .int .u16 (e5), .int .u16 (e6), .int .u16 (e7)]), (.agg #[.int .u16 (v0), .int .u16 (v1)])] w fun e w' => e = .returned (.agg #[.int .u16 (hi (val e6 e7)), .int .u16 (lo (val e6 e7))]) ∧ Below w.heap.size w w' := by
  have l0 := val_lo e0 e1
  have g0 := val_hi e0 e1
  have l1 := val_lo e2 e3
  have g1 := val_hi e2 e3
  have l2 := val_lo e4 e5
  have g2 := val_hi e4 e5
  have l3 := val_lo e6 e7
  have g3 := val_hi e6 e7
  have vl := val_lo v0 v1
  have vh := val_hi v0 v1
  go_enter Try.func20, Try.ntmps20
  go_wp2_with fail
  refine (rvalue_any v0 v1 hv00 hv01 hv10 hv11 _).mono ?_
  rintro _ r1 ⟨rfl, hbr1⟩
  obtain ⟨hcr1, hfr1⟩ := bcell hbr1
  have hzr1 := hbr1.size
  try simp only [World.size_alloc, World.size_setCell, World.size_drew] at hzr1
  have hlr1w0 : w.heap.size < r1.heap.size := by omega
  have hlr1w1 : w.heap.size + 1 < r1.heap.size := by omega
  have hlr1w2 : w.heap.size + 1 + 1 < r1.heap.size := by omega
  go_wp2_with fail
  have hecr2 := @Ext.cell
  refine wp_region_ext (by kernel_rfl) (by kernel_rfl) ?_
  repeat (first | go_big_quiet_skip | (go_big_quiet_want; go_big_quiet_op; first | go_big_quiet_on | (go_big_quiet_call ((first | fail | (go_at_call 12; exact ext_call (rvalue_any _ _ (by assumption) (by assumption) (by assumption) (by assumption) _)))))))
  clear hecr2
  refine wpQuiet_nil ?_
  rintro r2 ⟨⟨_, hbr2⟩, rfl⟩
  obtain ⟨hcr2, hfr2⟩ := bcell hbr2
  have hzr2 := hbr2.size
  try simp only [World.size_alloc, World.size_setCell, World.size_drew] at hzr2
  have hlr2w0 : w.heap.size < r2.heap.size := by omega
  have hlr2w1 : w.heap.size + 1 < r2.heap.size := by omega
  have hlr2w2 : w.heap.size + 1 + 1 < r2.heap.size := by omega
  go_wp2_with fail
  refine (rdouble_any (val e6 e7) (by omega) (by omega) _).mono ?_
  rintro _ r3 ⟨rfl, hbr3⟩
  obtain ⟨hcr3, hfr3⟩ := bcell hbr3
  have hzr3 := hbr3.size
  try simp only [World.size_alloc, World.size_setCell, World.size_drew] at hzr3
  have hlr3w0 : w.heap.size < r3.heap.size := by omega
  have hlr3w1 : w.heap.size + 1 < r3.heap.size := by omega
  have hlr3w2 : w.heap.size + 1 + 1 < r3.heap.size := by omega
  go_wp2
  refine bodyPost_ret (v := (.agg #[.int .u16 (hi (val e6 e7)), .int .u16 (lo (val e6 e7))])) (by simp [results, Try.results20, go_sem, *]) rfl ⟨rfl, ?_⟩; exact (by repeat' (first | (with_reducible exact Below.refl _ _) | (with_reducible refine bl_set ?_ _ ?_) | (with_reducible refine bl_alloc ?_ _) | (with_reducible refine bl_drew ?_) | (with_reducible refine bl_via (by with_reducible assumption) ?_) | (with_reducible assumption) | omega | (simp only []; omega) | (simp; omega)))
set_option maxHeartbeats 4000000 in
theorem rthr_2 (v0 v1 e0 e1 e2 e3 e4 e5 e6 e7 : Int) (hv00 : 0 ≤ v0) (hv01 : v0 < 65536) (hv10 : 0 ≤ v1) (hv11 : v1 < 65536) (he00 : 0 ≤ e0) (he01 : e0 < 65536) (he10 : 0 ≤ e1) (he11 : e1 < 65536) (he20 : 0 ≤ e2) (he21 : e2 < 65536) (he30 : 0 ≤ e3) (he31 : e3 < 65536) (he40 : 0 ≤ e4) (he41 : e4 < 65536) (he50 : 0 ≤ e5) (he51 : e5 < 65536) (he60 : 0 ≤ e6) (he61 : e6 < 65536) (he70 : 0 ≤ e7) (he71 : e7 < 65536) (p : decide (val v0 v1 < val e0 e1) = false) (q : decide (val e6 e7 < val v0 v1) = false) (r : decide (val e2 e3 < val v0 v1) = true) (s : decide (val v0 v1 < val e4 e5) = true) (t : decide (val v0 v1 - val e2 e3 ≤ val e4 e5 - val v0 v1) = true) (w : World) :
    Calls Try.prog 20 #[(.agg #[.int .u16 (e0), .int .u16 (e1), .int .u16 (e2), .int .u16 (e3), .int .u16 (e4), .int .u16 (e5), .int .u16 (e6), .int .u16 (e7)]), (.agg #[.int .u16 (v0), .int .u16 (v1)])] w fun e w' => e = .returned (.agg #[.int .u16 (hi (val e2 e3)), .int .u16 (lo (val e2 e3))]) ∧ Below w.heap.size w w' := by
  have l0 := val_lo e0 e1
  have g0 := val_hi e0 e1
  have l1 := val_lo e2 e3
  have g1 := val_hi e2 e3
  have l2 := val_lo e4 e5
  have g2 := val_hi e4 e5
  have l3 := val_lo e6 e7
  have g3 := val_hi e6 e7
  have vl := val_lo v0 v1
  have vh := val_hi v0 v1
  go_enter Try.func20, Try.ntmps20
  go_wp2_with fail
  refine (rvalue_any v0 v1 hv00 hv01 hv10 hv11 _).mono ?_
  rintro _ r1 ⟨rfl, hbr1⟩
  obtain ⟨hcr1, hfr1⟩ := bcell hbr1
  have hzr1 := hbr1.size
  try simp only [World.size_alloc, World.size_setCell, World.size_drew] at hzr1
  have hlr1w0 : w.heap.size < r1.heap.size := by omega
  have hlr1w1 : w.heap.size + 1 < r1.heap.size := by omega
  have hlr1w2 : w.heap.size + 1 + 1 < r1.heap.size := by omega
  go_wp2_with fail
  have hecr2 := @Ext.cell
  refine wp_region_ext (by kernel_rfl) (by kernel_rfl) ?_
  repeat (first | go_big_quiet_skip | (go_big_quiet_want; go_big_quiet_op; first | go_big_quiet_on | (go_big_quiet_call ((first | fail | (go_at_call 12; exact ext_call (rvalue_any _ _ (by assumption) (by assumption) (by assumption) (by assumption) _)))))))
  clear hecr2
  refine wpQuiet_nil ?_
  rintro r2 ⟨⟨_, hbr2⟩, rfl⟩
  obtain ⟨hcr2, hfr2⟩ := bcell hbr2
  have hzr2 := hbr2.size
  try simp only [World.size_alloc, World.size_setCell, World.size_drew] at hzr2
  have hlr2w0 : w.heap.size < r2.heap.size := by omega
  have hlr2w1 : w.heap.size + 1 < r2.heap.size := by omega
  have hlr2w2 : w.heap.size + 1 + 1 < r2.heap.size := by omega
  go_wp2_with fail
  refine (rdouble_any (val e2 e3) (by omega) (by omega) _).mono ?_
  rintro _ r3 ⟨rfl, hbr3⟩
  obtain ⟨hcr3, hfr3⟩ := bcell hbr3
  have hzr3 := hbr3.size
  try simp only [World.size_alloc, World.size_setCell, World.size_drew] at hzr3
  have hlr3w0 : w.heap.size < r3.heap.size := by omega
  have hlr3w1 : w.heap.size + 1 < r3.heap.size := by omega
  have hlr3w2 : w.heap.size + 1 + 1 < r3.heap.size := by omega
  go_wp2
  refine bodyPost_ret (v := (.agg #[.int .u16 (hi (val e2 e3)), .int .u16 (lo (val e2 e3))])) (by simp [results, Try.results20, go_sem, *]) rfl ⟨rfl, ?_⟩; exact (by repeat' (first | (with_reducible exact Below.refl _ _) | (with_reducible refine bl_set ?_ _ ?_) | (with_reducible refine bl_alloc ?_ _) | (with_reducible refine bl_drew ?_) | (with_reducible refine bl_via (by with_reducible assumption) ?_) | (with_reducible assumption) | omega | (simp only []; omega) | (simp; omega)))
set_option maxHeartbeats 4000000 in
theorem rthr_3 (v0 v1 e0 e1 e2 e3 e4 e5 e6 e7 : Int) (hv00 : 0 ≤ v0) (hv01 : v0 < 65536) (hv10 : 0 ≤ v1) (hv11 : v1 < 65536) (he00 : 0 ≤ e0) (he01 : e0 < 65536) (he10 : 0 ≤ e1) (he11 : e1 < 65536) (he20 : 0 ≤ e2) (he21 : e2 < 65536) (he30 : 0 ≤ e3) (he31 : e3 < 65536) (he40 : 0 ≤ e4) (he41 : e4 < 65536) (he50 : 0 ≤ e5) (he51 : e5 < 65536) (he60 : 0 ≤ e6) (he61 : e6 < 65536) (he70 : 0 ≤ e7) (he71 : e7 < 65536) (p : decide (val v0 v1 < val e0 e1) = false) (q : decide (val e6 e7 < val v0 v1) = false) (r : decide (val e2 e3 < val v0 v1) = true) (s : decide (val v0 v1 < val e4 e5) = true) (t : decide (val v0 v1 - val e2 e3 ≤ val e4 e5 - val v0 v1) = false) (w : World) :
    Calls Try.prog 20 #[(.agg #[.int .u16 (e0), .int .u16 (e1), .int .u16 (e2), .int .u16 (e3), .int .u16 (e4), .int .u16 (e5), .int .u16 (e6), .int .u16 (e7)]), (.agg #[.int .u16 (v0), .int .u16 (v1)])] w fun e w' => e = .returned (.agg #[.int .u16 (hi (val e4 e5)), .int .u16 (lo (val e4 e5))]) ∧ Below w.heap.size w w' := by
  have l0 := val_lo e0 e1
  have g0 := val_hi e0 e1
  have l1 := val_lo e2 e3
  have g1 := val_hi e2 e3
  have l2 := val_lo e4 e5
  have g2 := val_hi e4 e5
  have l3 := val_lo e6 e7
  have g3 := val_hi e6 e7
  have vl := val_lo v0 v1
  have vh := val_hi v0 v1
  go_enter Try.func20, Try.ntmps20
  go_wp2_with fail
  refine (rvalue_any v0 v1 hv00 hv01 hv10 hv11 _).mono ?_
  rintro _ r1 ⟨rfl, hbr1⟩
  obtain ⟨hcr1, hfr1⟩ := bcell hbr1
  have hzr1 := hbr1.size
  try simp only [World.size_alloc, World.size_setCell, World.size_drew] at hzr1
  have hlr1w0 : w.heap.size < r1.heap.size := by omega
  have hlr1w1 : w.heap.size + 1 < r1.heap.size := by omega
  have hlr1w2 : w.heap.size + 1 + 1 < r1.heap.size := by omega
  go_wp2_with fail
  have hecr2 := @Ext.cell
  refine wp_region_ext (by kernel_rfl) (by kernel_rfl) ?_
  repeat (first | go_big_quiet_skip | (go_big_quiet_want; go_big_quiet_op; first | go_big_quiet_on | (go_big_quiet_call ((first | fail | (go_at_call 12; exact ext_call (rvalue_any _ _ (by assumption) (by assumption) (by assumption) (by assumption) _)))))))
  clear hecr2
  refine wpQuiet_nil ?_
  rintro r2 ⟨⟨_, hbr2⟩, rfl⟩
  obtain ⟨hcr2, hfr2⟩ := bcell hbr2
  have hzr2 := hbr2.size
  try simp only [World.size_alloc, World.size_setCell, World.size_drew] at hzr2
  have hlr2w0 : w.heap.size < r2.heap.size := by omega
  have hlr2w1 : w.heap.size + 1 < r2.heap.size := by omega
  have hlr2w2 : w.heap.size + 1 + 1 < r2.heap.size := by omega
  go_wp2_with fail
  refine (rdouble_any (val e4 e5) (by omega) (by omega) _).mono ?_
  rintro _ r3 ⟨rfl, hbr3⟩
  obtain ⟨hcr3, hfr3⟩ := bcell hbr3
  have hzr3 := hbr3.size
  try simp only [World.size_alloc, World.size_setCell, World.size_drew] at hzr3
  have hlr3w0 : w.heap.size < r3.heap.size := by omega
  have hlr3w1 : w.heap.size + 1 < r3.heap.size := by omega
  have hlr3w2 : w.heap.size + 1 + 1 < r3.heap.size := by omega
  go_wp2
  refine bodyPost_ret (v := (.agg #[.int .u16 (hi (val e4 e5)), .int .u16 (lo (val e4 e5))])) (by simp [results, Try.results20, go_sem, *]) rfl ⟨rfl, ?_⟩; exact (by repeat' (first | (with_reducible exact Below.refl _ _) | (with_reducible refine bl_set ?_ _ ?_) | (with_reducible refine bl_alloc ?_ _) | (with_reducible refine bl_drew ?_) | (with_reducible refine bl_via (by with_reducible assumption) ?_) | (with_reducible assumption) | omega | (simp only []; omega) | (simp; omega)))
set_option maxHeartbeats 4000000 in
theorem rthr_4 (v0 v1 e0 e1 e2 e3 e4 e5 e6 e7 : Int) (hv00 : 0 ≤ v0) (hv01 : v0 < 65536) (hv10 : 0 ≤ v1) (hv11 : v1 < 65536) (he00 : 0 ≤ e0) (he01 : e0 < 65536) (he10 : 0 ≤ e1) (he11 : e1 < 65536) (he20 : 0 ≤ e2) (he21 : e2 < 65536) (he30 : 0 ≤ e3) (he31 : e3 < 65536) (he40 : 0 ≤ e4) (he41 : e4 < 65536) (he50 : 0 ≤ e5) (he51 : e5 < 65536) (he60 : 0 ≤ e6) (he61 : e6 < 65536) (he70 : 0 ≤ e7) (he71 : e7 < 65536) (p : decide (val v0 v1 < val e0 e1) = false) (q : decide (val e6 e7 < val v0 v1) = false) (r : decide (val e2 e3 < val v0 v1) = false) (w : World) :
    Calls Try.prog 20 #[(.agg #[.int .u16 (e0), .int .u16 (e1), .int .u16 (e2), .int .u16 (e3), .int .u16 (e4), .int .u16 (e5), .int .u16 (e6), .int .u16 (e7)]), (.agg #[.int .u16 (v0), .int .u16 (v1)])] w fun e w' => e = .returned (.agg #[.int .u16 (hi (val v0 v1)), .int .u16 (lo (val v0 v1))]) ∧ Below w.heap.size w w' := by
  have l0 := val_lo e0 e1
  have g0 := val_hi e0 e1
  have l1 := val_lo e2 e3
  have g1 := val_hi e2 e3
  have l2 := val_lo e4 e5
  have g2 := val_hi e4 e5
  have l3 := val_lo e6 e7
  have g3 := val_hi e6 e7
  have vl := val_lo v0 v1
  have vh := val_hi v0 v1
  go_enter Try.func20, Try.ntmps20
  go_wp2_with fail
  refine (rvalue_any v0 v1 hv00 hv01 hv10 hv11 _).mono ?_
  rintro _ r1 ⟨rfl, hbr1⟩
  obtain ⟨hcr1, hfr1⟩ := bcell hbr1
  have hzr1 := hbr1.size
  try simp only [World.size_alloc, World.size_setCell, World.size_drew] at hzr1
  have hlr1w0 : w.heap.size < r1.heap.size := by omega
  have hlr1w1 : w.heap.size + 1 < r1.heap.size := by omega
  have hlr1w2 : w.heap.size + 1 + 1 < r1.heap.size := by omega
  go_wp2_with fail
  have hecr2 := @Ext.cell
  refine wp_region_ext (by kernel_rfl) (by kernel_rfl) ?_
  repeat (first | go_big_quiet_skip | (go_big_quiet_want; go_big_quiet_op; first | go_big_quiet_on | (go_big_quiet_call ((first | fail | (go_at_call 12; exact ext_call (rvalue_any _ _ (by assumption) (by assumption) (by assumption) (by assumption) _)))))))
  clear hecr2
  refine wpQuiet_nil ?_
  rintro r2 ⟨⟨_, hbr2⟩, rfl⟩
  obtain ⟨hcr2, hfr2⟩ := bcell hbr2
  have hzr2 := hbr2.size
  try simp only [World.size_alloc, World.size_setCell, World.size_drew] at hzr2
  have hlr2w0 : w.heap.size < r2.heap.size := by omega
  have hlr2w1 : w.heap.size + 1 < r2.heap.size := by omega
  have hlr2w2 : w.heap.size + 1 + 1 < r2.heap.size := by omega
  go_wp2_with fail
  refine (rdouble_any (val v0 v1) (by omega) (by omega) _).mono ?_
  rintro _ r3 ⟨rfl, hbr3⟩
  obtain ⟨hcr3, hfr3⟩ := bcell hbr3
  have hzr3 := hbr3.size
  try simp only [World.size_alloc, World.size_setCell, World.size_drew] at hzr3
  have hlr3w0 : w.heap.size < r3.heap.size := by omega
  have hlr3w1 : w.heap.size + 1 < r3.heap.size := by omega
  have hlr3w2 : w.heap.size + 1 + 1 < r3.heap.size := by omega
  go_wp2
  refine bodyPost_ret (v := (.agg #[.int .u16 (hi (val v0 v1)), .int .u16 (lo (val v0 v1))])) (by simp [results, Try.results20, go_sem, *]) rfl ⟨rfl, ?_⟩; exact (by repeat' (first | (with_reducible exact Below.refl _ _) | (with_reducible refine bl_set ?_ _ ?_) | (with_reducible refine bl_alloc ?_ _) | (with_reducible refine bl_drew ?_) | (with_reducible refine bl_via (by with_reducible assumption) ?_) | (with_reducible assumption) | omega | (simp only []; omega) | (simp; omega)))
set_option maxHeartbeats 4000000 in
theorem rthr_5 (v0 v1 e0 e1 e2 e3 e4 e5 e6 e7 : Int) (hv00 : 0 ≤ v0) (hv01 : v0 < 65536) (hv10 : 0 ≤ v1) (hv11 : v1 < 65536) (he00 : 0 ≤ e0) (he01 : e0 < 65536) (he10 : 0 ≤ e1) (he11 : e1 < 65536) (he20 : 0 ≤ e2) (he21 : e2 < 65536) (he30 : 0 ≤ e3) (he31 : e3 < 65536) (he40 : 0 ≤ e4) (he41 : e4 < 65536) (he50 : 0 ≤ e5) (he51 : e5 < 65536) (he60 : 0 ≤ e6) (he61 : e6 < 65536) (he70 : 0 ≤ e7) (he71 : e7 < 65536) (p : decide (val v0 v1 < val e0 e1) = false) (q : decide (val e6 e7 < val v0 v1) = false) (r : decide (val e2 e3 < val v0 v1) = true) (s : decide (val v0 v1 < val e4 e5) = false) (w : World) :
    Calls Try.prog 20 #[(.agg #[.int .u16 (e0), .int .u16 (e1), .int .u16 (e2), .int .u16 (e3), .int .u16 (e4), .int .u16 (e5), .int .u16 (e6), .int .u16 (e7)]), (.agg #[.int .u16 (v0), .int .u16 (v1)])] w fun e w' => e = .returned (.agg #[.int .u16 (hi (val v0 v1)), .int .u16 (lo (val v0 v1))]) ∧ Below w.heap.size w w' := by
  have l0 := val_lo e0 e1
  have g0 := val_hi e0 e1
  have l1 := val_lo e2 e3
  have g1 := val_hi e2 e3
  have l2 := val_lo e4 e5
  have g2 := val_hi e4 e5
  have l3 := val_lo e6 e7
  have g3 := val_hi e6 e7
  have vl := val_lo v0 v1
  have vh := val_hi v0 v1
  go_enter Try.func20, Try.ntmps20
  go_wp2_with fail
  refine (rvalue_any v0 v1 hv00 hv01 hv10 hv11 _).mono ?_
  rintro _ r1 ⟨rfl, hbr1⟩
  obtain ⟨hcr1, hfr1⟩ := bcell hbr1
  have hzr1 := hbr1.size
  try simp only [World.size_alloc, World.size_setCell, World.size_drew] at hzr1
  have hlr1w0 : w.heap.size < r1.heap.size := by omega
  have hlr1w1 : w.heap.size + 1 < r1.heap.size := by omega
  have hlr1w2 : w.heap.size + 1 + 1 < r1.heap.size := by omega
  go_wp2_with fail
  have hecr2 := @Ext.cell
  refine wp_region_ext (by kernel_rfl) (by kernel_rfl) ?_
  repeat (first | go_big_quiet_skip | (go_big_quiet_want; go_big_quiet_op; first | go_big_quiet_on | (go_big_quiet_call ((first | fail | (go_at_call 12; exact ext_call (rvalue_any _ _ (by assumption) (by assumption) (by assumption) (by assumption) _)))))))
  clear hecr2
  refine wpQuiet_nil ?_
  rintro r2 ⟨⟨_, hbr2⟩, rfl⟩
  obtain ⟨hcr2, hfr2⟩ := bcell hbr2
  have hzr2 := hbr2.size
  try simp only [World.size_alloc, World.size_setCell, World.size_drew] at hzr2
  have hlr2w0 : w.heap.size < r2.heap.size := by omega
  have hlr2w1 : w.heap.size + 1 < r2.heap.size := by omega
  have hlr2w2 : w.heap.size + 1 + 1 < r2.heap.size := by omega
  go_wp2_with fail
  refine (rdouble_any (val v0 v1) (by omega) (by omega) _).mono ?_
  rintro _ r3 ⟨rfl, hbr3⟩
  obtain ⟨hcr3, hfr3⟩ := bcell hbr3
  have hzr3 := hbr3.size
  try simp only [World.size_alloc, World.size_setCell, World.size_drew] at hzr3
  have hlr3w0 : w.heap.size < r3.heap.size := by omega
  have hlr3w1 : w.heap.size + 1 < r3.heap.size := by omega
  have hlr3w2 : w.heap.size + 1 + 1 < r3.heap.size := by omega
  go_wp2
  refine bodyPost_ret (v := (.agg #[.int .u16 (hi (val v0 v1)), .int .u16 (lo (val v0 v1))])) (by simp [results, Try.results20, go_sem, *]) rfl ⟨rfl, ?_⟩; exact (by repeat' (first | (with_reducible exact Below.refl _ _) | (with_reducible refine bl_set ?_ _ ?_) | (with_reducible refine bl_alloc ?_ _) | (with_reducible refine bl_drew ?_) | (with_reducible refine bl_via (by with_reducible assumption) ?_) | (with_reducible assumption) | omega | (simp only []; omega) | (simp; omega)))
theorem rthrottle_any (v0 v1 e0 e1 e2 e3 e4 e5 e6 e7 : Int) (hv00 : 0 ≤ v0) (hv01 : v0 < 65536) (hv10 : 0 ≤ v1) (hv11 : v1 < 65536) (he00 : 0 ≤ e0) (he01 : e0 < 65536) (he10 : 0 ≤ e1) (he11 : e1 < 65536) (he20 : 0 ≤ e2) (he21 : e2 < 65536) (he30 : 0 ≤ e3) (he31 : e3 < 65536) (he40 : 0 ≤ e4) (he41 : e4 < 65536) (he50 : 0 ≤ e5) (he51 : e5 < 65536) (he60 : 0 ≤ e6) (he61 : e6 < 65536) (he70 : 0 ≤ e7) (he71 : e7 < 65536) (h : 0 ≤ val e0 e1 ∧ val e0 e1 ≤ val e2 e3 ∧ val e2 e3 ≤ val e4 e5 ∧ val e4 e5 ≤ val e6 e7) (w : World) :
    Calls Try.prog 20 #[(.agg #[.int .u16 (e0), .int .u16 (e1), .int .u16 (e2), .int .u16 (e3), .int .u16 (e4), .int .u16 (e5), .int .u16 (e6), .int .u16 (e7)]), (.agg #[.int .u16 (v0), .int .u16 (v1)])] w fun e w' => e = .returned (.agg #[.int .u16 (hi (thrv (val v0 v1) (val e0 e1) (val e2 e3) (val e4 e5) (val e6 e7))), .int .u16 (lo (thrv (val v0 v1) (val e0 e1) (val e2 e3) (val e4 e5) (val e6 e7)))]) ∧ Below w.heap.size w w' := by
  by_cases p : val v0 v1 < val e0 e1
  · have e : thrv (val v0 v1) (val e0 e1) (val e2 e3) (val e4 e5) (val e6 e7) = val e0 e1 := by unfold thrv nearv; (repeat' split) <;> omega
    rw [e]; exact rthr_0 v0 v1 e0 e1 e2 e3 e4 e5 e6 e7 hv00 hv01 hv10 hv11 he00 he01 he10 he11 he20 he21 he30 he31 he40 he41 he50 he51 he60 he61 he70 he71 (decide_eq_true p) w
  · by_cases q : val e6 e7 < val v0 v1
    · have e : thrv (val v0 v1) (val e0 e1) (val e2 e3) (val e4 e5) (val e6 e7) = val e6 e7 := by unfold thrv nearv; (repeat' split) <;> omega
      rw [e]; exact rthr_1 v0 v1 e0 e1 e2 e3 e4 e5 e6 e7 hv00 hv01 hv10 hv11 he00 he01 he10 he11 he20 he21 he30 he31 he40 he41 he50 he51 he60 he61 he70 he71 (decide_eq_false p) (decide_eq_true q) w
    · by_cases r : val e2 e3 < val v0 v1
      · by_cases s : val v0 v1 < val e4 e5
        · by_cases t : val v0 v1 - val e2 e3 ≤ val e4 e5 - val v0 v1
          · have e : thrv (val v0 v1) (val e0 e1) (val e2 e3) (val e4 e5) (val e6 e7) = val e2 e3 := by unfold thrv nearv; (repeat' split) <;> omega
            rw [e]; exact rthr_2 v0 v1 e0 e1 e2 e3 e4 e5 e6 e7 hv00 hv01 hv10 hv11 he00 he01 he10 he11 he20 he21 he30 he31 he40 he41 he50 he51 he60 he61 he70 he71 (decide_eq_false p) (decide_eq_false q) (decide_eq_true r) (decide_eq_true s) (decide_eq_true t) w
          · have e : thrv (val v0 v1) (val e0 e1) (val e2 e3) (val e4 e5) (val e6 e7) = val e4 e5 := by unfold thrv nearv; (repeat' split) <;> omega
            rw [e]; exact rthr_3 v0 v1 e0 e1 e2 e3 e4 e5 e6 e7 hv00 hv01 hv10 hv11 he00 he01 he10 he11 he20 he21 he30 he31 he40 he41 he50 he51 he60 he61 he70 he71 (decide_eq_false p) (decide_eq_false q) (decide_eq_true r) (decide_eq_true s) (decide_eq_false t) w
        · have e : thrv (val v0 v1) (val e0 e1) (val e2 e3) (val e4 e5) (val e6 e7) = val v0 v1 := by unfold thrv nearv; (repeat' split) <;> omega
          rw [e]; exact rthr_5 v0 v1 e0 e1 e2 e3 e4 e5 e6 e7 hv00 hv01 hv10 hv11 he00 he01 he10 he11 he20 he21 he30 he31 he40 he41 he50 he51 he60 he61 he70 he71 (decide_eq_false p) (decide_eq_false q) (decide_eq_true r) (decide_eq_false s) w
      · have e : thrv (val v0 v1) (val e0 e1) (val e2 e3) (val e4 e5) (val e6 e7) = val v0 v1 := by unfold thrv nearv; (repeat' split) <;> omega
        rw [e]; exact rthr_4 v0 v1 e0 e1 e2 e3 e4 e5 e6 e7 hv00 hv01 hv10 hv11 he00 he01 he10 he11 he20 he21 he30 he31 he40 he41 he50 he51 he60 he61 he70 he71 (decide_eq_false p) (decide_eq_false q) (decide_eq_false r) w
end Go.Proofs.Ytpmocegfiniafaa
