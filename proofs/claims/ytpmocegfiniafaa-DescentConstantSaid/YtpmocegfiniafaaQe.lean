/- Contracts of Throttle by values, and of Valid, Allowed and Throttle of the reference, over this translation. -/
import Derived.Test.YtpmocegfiniafaaQd
namespace Go.Proofs.Ytpmocegfiniafaa
set_option linter.unusedSimpArgs false
set_option linter.unusedVariables false
open Go.RowKit

theorem nearv_bd (v a b : Int) (v0 : -268435455 ≤ v) (v1 : v ≤ 268435455) (a0 : -268435455 ≤ a) (a1 : a ≤ 268435455) (b0 : -268435455 ≤ b) (b1 : b ≤ 268435455) : -268435455 ≤ nearv v a b ∧ nearv v a b ≤ 268435455 := by
  unfold nearv; (repeat' split) <;> omega
theorem cmpw (a b : Int) (a0 : -268435455 ≤ a) (a1 : a ≤ 268435455) (b0 : -268435455 ≤ b) (b1 : b ≤ 268435455) (w : World) :
    Calls Try.prog 46 #[(.agg #[.int .u16 (hi (a)), .int .u16 (lo (a))]), (.agg #[.int .u16 (hi (b)), .int .u16 (lo (b))])] w fun e w' => e = .returned (.int .i64 (cmpv a b)) ∧ Below w.heap.size w w' := by
  have x := hi_lo a a0 a1
  have y := hi_lo b b0 b1
  have h := cmp_any (hi a) (lo a) (hi b) (lo b) (by omega) (by omega) (by omega) (by omega) (by omega) (by omega) (by omega) (by omega) w
  rwa [val_of a a0 a1, val_of b b0 b1] at h
theorem cmp0 (b : Int) (b0 : -268435455 ≤ b) (b1 : b ≤ 268435455) (w : World) :
    Calls Try.prog 46 #[(.agg #[.int .u16 (0), .int .u16 (0)]), (.agg #[.int .u16 (hi (b)), .int .u16 (lo (b))])] w fun e w' => e = .returned (.int .i64 (cmpv 0 b)) ∧ Below w.heap.size w w' := by
  have h := cmpw 0 b (by omega) (by omega) b0 b1 w
  rwa [show hi 0 = 0 from rfl, show lo 0 = 0 from rfl] at h
theorem cmpv_gt (a b : Int) : decide (0 < cmpv a b) = decide (b < a) := by
  apply decide_eq_decide.2
  unfold cmpv
  (repeat' split) <;> omega
theorem valw (a : Int) (a0 : -268435455 ≤ a) (a1 : a ≤ 268435455) (w : World) :
    Calls Try.prog 29 #[(.agg #[.int .u16 (hi (a)), .int .u16 (lo (a))])] w fun e w' => e = .returned (.int .i64 a) ∧ Below w.heap.size w w' := by
  have x := hi_lo a a0 a1
  have h := value_any (hi a) (lo a) (by omega) (by omega) (by omega) (by omega) w
  rwa [val_of a a0 a1] at h
theorem throttle_any (v0 v1 e0 e1 e2 e3 e4 e5 e6 e7 : Int) (hv00 : 0 ≤ v0) (hv01 : v0 < 65536) (hv10 : 0 ≤ v1) (hv11 : v1 < 65536) (he00 : 0 ≤ e0) (he01 : e0 < 65536) (he10 : 0 ≤ e1) (he11 : e1 < 65536) (he20 : 0 ≤ e2) (he21 : e2 < 65536) (he30 : 0 ≤ e3) (he31 : e3 < 65536) (he40 : 0 ≤ e4) (he41 : e4 < 65536) (he50 : 0 ≤ e5) (he51 : e5 < 65536) (he60 : 0 ≤ e6) (he61 : e6 < 65536) (he70 : 0 ≤ e7) (he71 : e7 < 65536) (h : 0 ≤ val e0 e1 ∧ val e0 e1 ≤ val e2 e3 ∧ val e2 e3 ≤ val e4 e5 ∧ val e4 e5 ≤ val e6 e7) (w : World) :
    Calls Try.prog 18 #[(.agg #[.int .u16 (e0), .int .u16 (e1), .int .u16 (e2), .int .u16 (e3), .int .u16 (e4), .int .u16 (e5), .int .u16 (e6), .int .u16 (e7)]), (.agg #[.int .u16 (v0), .int .u16 (v1)])] w fun e w' => e = .returned (.tuple #[(.agg #[.int .u16 (hi (thrv (val v0 v1) (val e0 e1) (val e2 e3) (val e4 e5) (val e6 e7))), .int .u16 (lo (thrv (val v0 v1) (val e0 e1) (val e2 e3) (val e4 e5) (val e6 e7)))]), .int .i64 0]) ∧ Below w.heap.size w w' := by
  have l0 := val_lo e0 e1
  have g0 := val_hi e0 e1
  have l1 := val_lo e2 e3
  have g1 := val_hi e2 e3
  have l2 := val_lo e4 e5
  have g2 := val_hi e4 e5
  have l3 := val_lo e6 e7
  have g3 := val_hi e6 e7
  have vl := val_lo v0 v1
  have vh := val_hi v0 v1
  obtain ⟨A0, A1⟩ := nearv_bd (val v0 v1) (val e0 e1) (val e2 e3) vl vh l0 g0 l1 g1
  obtain ⟨B0, B1⟩ := nearv_bd (val v0 v1) (val e4 e5) (val e6 e7) vl vh l2 g2 l3 g3
  have k := thr_4 v0 v1 e0 e1 e2 e3 e4 e5 e6 e7 (hi (val e0 e1)) (lo (val e0 e1)) (hi (val e2 e3)) (lo (val e2 e3)) (hi (val e4 e5)) (lo (val e4 e5)) (hi (val e6 e7)) (lo (val e6 e7)) _ _ _ _ (val v0 v1) (nearv (val v0 v1) (val e0 e1) (val e2 e3)) (nearv (val v0 v1) (val e4 e5) (val e6 e7)) _ _ _ _ _ (canon_any e0 e1 he00 he01 he10 he11) (canon_any e2 e3 he20 he21 he30 he31) (canon_any e4 e5 he40 he41 he50 he51) (canon_any e6 e7 he60 he61 he70 he71) (cmp0 _ l0 g0) (by rw [cmpv_gt]; exact decide_eq_false (by omega)) (cmpw _ _ l0 g0 l1 g1) (by rw [cmpv_gt]; exact decide_eq_false (by omega)) (cmpw _ _ l1 g1 l2 g2) (by rw [cmpv_gt]; exact decide_eq_false (by omega)) (cmpw _ _ l2 g2 l3 g3) (by rw [cmpv_gt]; exact decide_eq_false (by omega)) A0 A1 B0 B1 vl vh
    (fun bw bs w x0 x1 p0 p1 q0 q1 lw ls => thc_1 v0 v1 _ _ hv00 hv01 hv10 hv11 l0 g0 l1 g1 bw bs w x0 x1 p0 p1 q0 q1 lw ls) (fun bw bs w x0 x1 p0 p1 q0 q1 lw ls => thc_3 v0 v1 _ _ hv00 hv01 hv10 hv11 l2 g2 l3 g3 bw bs w x0 x1 p0 p1 q0 q1 lw ls)
    (value_any v0 v1 hv00 hv01 hv10 hv11) (valw _ A0 A1) (valw _ B0 B1) rfl w
  refine k.mono fun e W ⟨he, hb⟩ => ⟨he.trans ?_, hb⟩
  unfold thrv
  by_cases c : max (val v0 v1 - nearv (val v0 v1) (val e0 e1) (val e2 e3)) (nearv (val v0 v1) (val e0 e1) (val e2 e3) - val v0 v1) ≤ max (val v0 v1 - nearv (val v0 v1) (val e4 e5) (val e6 e7)) (nearv (val v0 v1) (val e4 e5) (val e6 e7) - val v0 v1)
  · simp only [c, decide_true, if_true]
  · simp only [c, decide_false, if_false, Bool.false_eq_true]
end Go.Proofs.Ytpmocegfiniafaa
