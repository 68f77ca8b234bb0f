/- The walk of the law VectorLengths: for every input it returns true. -/
import Derived.Test.YtkgpdpengfdhbaaWb
namespace Go.Proofs.Ytkgpdpengfdhbaa
set_option linter.unusedSimpArgs false
set_option linter.unusedVariables false
open Go.RowKit

theorem size_any (v : Int) (h0 : -268435455 ≤ v) (h1 : v ≤ 268435455) (w : World) :
    Calls Try.prog 21 #[.int .i64 v] w fun e w' => e = .returned (.int .i64 (mag v)) ∧ w = w' := by
  have hm : max v (-v) = mag v := by unfold mag; split <;> omega
  go_enter Try.func21, Try.ntmps21
  go_wp2
  go_ret
  exact ⟨rfl, rfl⟩

theorem mag_sq (v : Int) : mag v * mag v = v * v ∧ 0 ≤ mag v ∧ (mag v = v ∨ mag v = -v) := by
  unfold mag
  split
  · exact ⟨Int.neg_mul_neg v v, by omega, Or.inr rfl⟩
  · exact ⟨rfl, by omega, Or.inl rfl⟩
theorem sq_succ (m : Int) : (m + 1) * (m + 1) = m * m + 2 * m + 1 := by rw [Int.add_mul, Int.mul_add]; omega
theorem near_exact (n : Int) (h : 0 ≤ n) : 0 ≤ nsq n ∧ n ≤ nsq n * nsq n + nsq n ∧ (0 < nsq n → nsq n * nsq n - nsq n < n) := by
  obtain ⟨i0, i1, i2⟩ := isq_spec n h
  have e := sq_succ (isq n)
  rw [e] at i2
  unfold nsq
  split
  · rw [e]; omega
  · omega
theorem sq3 (x y z : Int) (hx : 0 ≤ x) (hy : 0 ≤ y) (hz : 0 ≤ z) : x * x + y * y + z * z ≤ (x + y + z) * (x + y + z) := by
  have a := Int.mul_nonneg hx hy
  have b := Int.mul_nonneg hx hz
  have c := Int.mul_nonneg hy hz
  have e : (x + y + z) * (x + y + z) = x * x + y * y + z * z + 2 * (x * y) + 2 * (x * z) + 2 * (y * z) := by
    simp only [Int.add_mul, Int.mul_add]
    rw [Int.mul_comm y x, Int.mul_comm z x, Int.mul_comm z y]
    omega
  omega
theorem near_le (n m : Int) (h : 0 ≤ n) (hm : 0 ≤ m) (h2 : n ≤ m * m) : nsq n ≤ m := by
  obtain ⟨i0, i1, i2⟩ := isq_spec n h
  have a : isq n < m + 1 := sq_lt _ _ i0 (by omega) (by rw [sq_succ m]; omega)
  unfold nsq
  split
  · rcases (show isq n < m ∨ isq n = m by omega) with q | q
    · omega
    · subst q; omega
  · omega
theorem near_ge (n m : Int) (h : 0 ≤ n) (hm : 0 ≤ m) (h2 : m * m ≤ n) : m ≤ nsq n := by
  have := isq_ge n m hm h2
  unfold nsq
  split <;> omega
theorem len_facts (x y z : Int) (hx : -268435455 ≤ x) (hx' : x ≤ 268435455) (hy : -268435455 ≤ y) (hy' : y ≤ 268435455) (hz : -268435455 ≤ z) (hz' : z ≤ 268435455) :
    let n := dot x y z x y z
    let s := sat (nsq n) 268435455
    let v := val (hi s) (lo s)
    (0 ≤ n ∧ n ≤ 216172780503171075) ∧ (-268435455 ≤ s ∧ s ≤ 268435455) ∧ (0 ≤ v ∧ v ≤ 268435455) ∧ (outb (nsq n) 268435455 = true ∨ outb (nsq n) 268435455 = false ∧ n ≤ v * v + v ∧ (0 < v → v * v - v < n)) ∧ mag x ≤ v ∧ mag y ≤ v ∧ mag z ≤ v ∧ v ≤ mag x + mag y + mag z ∧ (0 ≤ mag x ∧ mag x ≤ 268435455) ∧ (0 ≤ mag y ∧ mag y ≤ 268435455) ∧ (0 ≤ mag z ∧ mag z ≤ 268435455) := by
  intro n s v
  have hn := dot_self x y z hx hx' hy hy' hz hz'
  obtain ⟨e0, e1, e2⟩ := near_exact n hn.1
  obtain ⟨ax, bx, cx⟩ := mag_sq x
  obtain ⟨ay, bY, cy⟩ := mag_sq y
  obtain ⟨az, bz, cz⟩ := mag_sq z
  have en : n = mag x * mag x + mag y * mag y + mag z * mag z := by rw [ax, ay, az]; rfl
  have q0 := sqn (mag x)
  have q1 := sqn (mag y)
  have q2 := sqn (mag z)
  have lx := near_ge n (mag x) hn.1 bx (by omega)
  have ly := near_ge n (mag y) hn.1 bY (by omega)
  have lz := near_ge n (mag z) hn.1 bz (by omega)
  have lu := near_le n (mag x + mag y + mag z) hn.1 (by omega) (by rw [en]; exact sq3 _ _ _ bx bY bz)
  have hs : s = if 268435455 < nsq n then 268435455 else nsq n := by
    show sat (nsq n) 268435455 = _
    unfold sat
    split
    · rfl
    · rw [if_neg (by omega)]
  have hs0 : 0 ≤ s ∧ s ≤ 268435455 := by rw [hs]; split <;> omega
  have hv : v = s := val_of s (by omega) (by omega)
  have ho : outb (nsq n) 268435455 = decide (268435455 < nsq n) := by
    unfold outb
    rw [decide_eq_decide]
    omega
  refine ⟨hn, by omega, by omega, ?_, ?_⟩
  · by_cases h : 268435455 < nsq n
    · left; rw [ho]; exact decide_eq_true h
    · right
      rw [if_neg h] at hs
      rw [hv, hs]
      exact ⟨by rw [ho]; exact decide_eq_false h, e1, e2⟩
  · rw [hv, hs]
    split <;> omega

set_option maxRecDepth 100000 in
set_option maxHeartbeats 4000000 in
theorem lengths_law (a b c d e f : Int) (ha0 : 0 ≤ a) (ha1 : a < 65536) (hb0 : 0 ≤ b) (hb1 : b < 65536) (hc0 : 0 ≤ c) (hc1 : c < 65536) (hd0 : 0 ≤ d) (hd1 : d < 65536) (he0 : 0 ≤ e) (he1 : e < 65536) (hf0 : 0 ≤ f) (hf1 : f < 65536) (w : World) :
    Calls Try.prog 4 #[(.agg #[.int .u16 (a), .int .u16 (b), .int .u16 (c), .int .u16 (d), .int .u16 (e), .int .u16 (f)])] w fun r w' => r = .returned (.bool true) ∧ Below w.heap.size w w' := by
  have heq := @eq_dbl
  obtain ⟨⟨n0, n1⟩, ⟨s0, s1⟩, ⟨v0, v1⟩, hout, x0, y0, z0, u0, ⟨mx0, mx1⟩, ⟨my0, my1⟩, ⟨mz0, mz1⟩⟩ := len_facts (val a b) (val c d) (val e f) (val_lo _ _) (val_hi _ _) (val_lo _ _) (val_hi _ _) (val_lo _ _) (val_hi _ _)
  have hM : decide ((if (if mag (val a b) < mag (val c d) then mag (val c d) else mag (val a b)) < mag (val e f) then mag (val e f) else if mag (val a b) < mag (val c d) then mag (val c d) else mag (val a b)) ≤ val (hi (sat (nsq (dot (val a b) (val c d) (val e f) (val a b) (val c d) (val e f))) 268435455)) (lo (sat (nsq (dot (val a b) (val c d) (val e f) (val a b) (val c d) (val e f))) 268435455))) = true := decide_eq_true (by split <;> (try split) <;> omega)
  obtain ⟨p0, p1⟩ := mul_bd (val (hi (sat (nsq (dot (val a b) (val c d) (val e f) (val a b) (val c d) (val e f))) 268435455)) (lo (sat (nsq (dot (val a b) (val c d) (val e f) (val a b) (val c d) (val e f))) 268435455))) (val (hi (sat (nsq (dot (val a b) (val c d) (val e f) (val a b) (val c d) (val e f))) 268435455)) (lo (sat (nsq (dot (val a b) (val c d) (val e f) (val a b) (val c d) (val e f))) 268435455))) (by omega) v1 (by omega) v1
  obtain ⟨b0, b1, b2, b3⟩ := hi_lo (sat (nsq (dot (val a b) (val c d) (val e f) (val a b) (val c d) (val e f))) 268435455) s0 s1
  have k0 := val_lo a b
  have k1 := val_hi a b
  have k2 := val_lo c d
  have k3 := val_hi c d
  have k4 := val_lo e f
  have k5 := val_hi e f
  rcases hout with hout | ⟨hout, o0, o1⟩
  · clear p0 p1
    go_enter Try.func4, Try.ntmps4
    go_wp2_with fail
    refine (lives_any _).mono ?_
    rintro _ r1 ⟨rfl, hbr1⟩
    obtain ⟨hcr1, hfr1⟩ := bcell hbr1
    have hzr1 := hbr1.size
    try simp only [World.size_alloc, World.size_setCell, World.size_drew] at hzr1
    have hlr1w0 : w.heap.size < r1.heap.size := by omega
    go_wp2_with fail
    refine (length_any a b c d e f ha0 ha1 hb0 hb1 hc0 hc1 hd0 hd1 he0 he1 hf0 hf1 _).mono ?_
    rintro _ r2 ⟨rfl, hbr2⟩
    obtain ⟨hcr2, hfr2⟩ := bcell hbr2
    have hzr2 := hbr2.size
    try simp only [World.size_alloc, World.size_setCell, World.size_drew] at hzr2
    have hlr2w0 : w.heap.size < r2.heap.size := by omega
    go_wp2_with fail
    refine (rlength_any a b c d e f ha0 ha1 hb0 hb1 hc0 hc1 hd0 hd1 he0 he1 hf0 hf1 _).mono ?_
    rintro _ r3 ⟨rfl, hbr3⟩
    obtain ⟨hcr3, hfr3⟩ := bcell hbr3
    have hzr3 := hbr3.size
    try simp only [World.size_alloc, World.size_setCell, World.size_drew] at hzr3
    have hlr3w0 : w.heap.size < r3.heap.size := by omega
    have hlr3r20 : r2.heap.size < r3.heap.size := by omega
    go_wp2_with fail
    refine (rvalues_any a b c d e f ha0 ha1 hb0 hb1 hc0 hc1 hd0 hd1 he0 he1 hf0 hf1 _).mono ?_
    rintro _ r4 ⟨rfl, hbr4⟩
    obtain ⟨hcr4, hfr4⟩ := bcell hbr4
    have hzr4 := hbr4.size
    try simp only [World.size_alloc, World.size_setCell, World.size_drew] at hzr4
    have hlr4w0 : w.heap.size < r4.heap.size := by omega
    have hlr4r20 : r2.heap.size < r4.heap.size := by omega
    have hlr4r30 : r3.heap.size < r4.heap.size := by omega
    go_wp2_with fail
    refine (rvalue_any (hi (sat (nsq (dot (val a b) (val c d) (val e f) (val a b) (val c d) (val e f))) 268435455)) (lo (sat (nsq (dot (val a b) (val c d) (val e f) (val a b) (val c d) (val e f))) 268435455)) (by omega) (by omega) (by omega) (by omega) _).mono ?_
    rintro _ r5 ⟨rfl, hbr5⟩
    obtain ⟨hcr5, hfr5⟩ := bcell hbr5
    have hzr5 := hbr5.size
    try simp only [World.size_alloc, World.size_setCell, World.size_drew] at hzr5
    have hlr5w0 : w.heap.size < r5.heap.size := by omega
    have hlr5r20 : r2.heap.size < r5.heap.size := by omega
    have hlr5r30 : r3.heap.size < r5.heap.size := by omega
    have hlr5r40 : r4.heap.size < r5.heap.size := by omega
    go_wp2_with fail
    refine (rexact_any a b c d e f a b c d e f ha0 ha1 hb0 hb1 hc0 hc1 hd0 hd1 he0 he1 hf0 hf1 ha0 ha1 hb0 hb1 hc0 hc1 hd0 hd1 he0 he1 hf0 hf1 _).mono ?_
    rintro _ r6 ⟨rfl, hbr6⟩
    obtain ⟨hcr6, hfr6⟩ := bcell hbr6
    have hzr6 := hbr6.size
    try simp only [World.size_alloc, World.size_setCell, World.size_drew] at hzr6
    have hlr6w0 : w.heap.size < r6.heap.size := by omega
    have hlr6r20 : r2.heap.size < r6.heap.size := by omega
    have hlr6r30 : r3.heap.size < r6.heap.size := by omega
    have hlr6r40 : r4.heap.size < r6.heap.size := by omega
    go_wp2_with fail
    have hecr7 := @Ext.cell
    refine wp_region_ext (by kernel_rfl) (by kernel_rfl) ?_
    repeat (first | go_big_quiet_skip | (go_big_quiet_want; go_big_quiet_op; first | go_big_quiet_on | (go_big_quiet_call ((first | fail | (go_at_call 21; exact ext_call_same (size_any _ (by assumption) (by assumption) _)))))))
    clear hecr7
    refine wpQuiet_nil ?_
    rintro r7 ⟨⟨_, hbr7⟩, rfl⟩
    obtain ⟨hcr7, hfr7⟩ := bcell hbr7
    have hzr7 := hbr7.size
    try simp only [World.size_alloc, World.size_setCell, World.size_drew] at hzr7
    have hlr7w0 : w.heap.size < r7.heap.size := by omega
    have hlr7r20 : r2.heap.size < r7.heap.size := by omega
    have hlr7r30 : r3.heap.size < r7.heap.size := by omega
    have hlr7r40 : r4.heap.size < r7.heap.size := by omega
    go_wp2
    all_goals go_ret
    all_goals exact ⟨rfl, (by repeat' (first | (with_reducible exact Below.refl _ _) | (with_reducible refine bl_set ?_ _ ?_) | (with_reducible refine bl_alloc ?_ _) | (with_reducible refine bl_drew ?_) | (with_reducible refine bl_via (by with_reducible assumption) ?_) | (with_reducible assumption) | omega | (simp only []; omega) | (simp; omega)))⟩
  · by_cases hp : 0 < val (hi (sat (nsq (dot (val a b) (val c d) (val e f) (val a b) (val c d) (val e f))) 268435455)) (lo (sat (nsq (dot (val a b) (val c d) (val e f) (val a b) (val c d) (val e f))) 268435455))
    · have o2 := o1 hp
      clear o1
      go_enter Try.func4, Try.ntmps4
      go_wp2_with fail
      refine (lives_any _).mono ?_
      rintro _ r1 ⟨rfl, hbr1⟩
      obtain ⟨hcr1, hfr1⟩ := bcell hbr1
      have hzr1 := hbr1.size
      try simp only [World.size_alloc, World.size_setCell, World.size_drew] at hzr1
      have hlr1w0 : w.heap.size < r1.heap.size := by omega
      go_wp2_with fail
      refine (length_any a b c d e f ha0 ha1 hb0 hb1 hc0 hc1 hd0 hd1 he0 he1 hf0 hf1 _).mono ?_
      rintro _ r2 ⟨rfl, hbr2⟩
      obtain ⟨hcr2, hfr2⟩ := bcell hbr2
      have hzr2 := hbr2.size
      try simp only [World.size_alloc, World.size_setCell, World.size_drew] at hzr2
      have hlr2w0 : w.heap.size < r2.heap.size := by omega
      go_wp2_with fail
      refine (rlength_any a b c d e f ha0 ha1 hb0 hb1 hc0 hc1 hd0 hd1 he0 he1 hf0 hf1 _).mono ?_
      rintro _ r3 ⟨rfl, hbr3⟩
      obtain ⟨hcr3, hfr3⟩ := bcell hbr3
      have hzr3 := hbr3.size
      try simp only [World.size_alloc, World.size_setCell, World.size_drew] at hzr3
      have hlr3w0 : w.heap.size < r3.heap.size := by omega
      have hlr3r20 : r2.heap.size < r3.heap.size := by omega
      go_wp2_with fail
      refine (rvalues_any a b c d e f ha0 ha1 hb0 hb1 hc0 hc1 hd0 hd1 he0 he1 hf0 hf1 _).mono ?_
      rintro _ r4 ⟨rfl, hbr4⟩
      obtain ⟨hcr4, hfr4⟩ := bcell hbr4
      have hzr4 := hbr4.size
      try simp only [World.size_alloc, World.size_setCell, World.size_drew] at hzr4
      have hlr4w0 : w.heap.size < r4.heap.size := by omega
      have hlr4r20 : r2.heap.size < r4.heap.size := by omega
      have hlr4r30 : r3.heap.size < r4.heap.size := by omega
      go_wp2_with fail
      refine (rvalue_any (hi (sat (nsq (dot (val a b) (val c d) (val e f) (val a b) (val c d) (val e f))) 268435455)) (lo (sat (nsq (dot (val a b) (val c d) (val e f) (val a b) (val c d) (val e f))) 268435455)) (by omega) (by omega) (by omega) (by omega) _).mono ?_
      rintro _ r5 ⟨rfl, hbr5⟩
      obtain ⟨hcr5, hfr5⟩ := bcell hbr5
      have hzr5 := hbr5.size
      try simp only [World.size_alloc, World.size_setCell, World.size_drew] at hzr5
      have hlr5w0 : w.heap.size < r5.heap.size := by omega
      have hlr5r20 : r2.heap.size < r5.heap.size := by omega
      have hlr5r30 : r3.heap.size < r5.heap.size := by omega
      have hlr5r40 : r4.heap.size < r5.heap.size := by omega
      go_wp2_with fail
      refine (rexact_any a b c d e f a b c d e f ha0 ha1 hb0 hb1 hc0 hc1 hd0 hd1 he0 he1 hf0 hf1 ha0 ha1 hb0 hb1 hc0 hc1 hd0 hd1 he0 he1 hf0 hf1 _).mono ?_
      rintro _ r6 ⟨rfl, hbr6⟩
      obtain ⟨hcr6, hfr6⟩ := bcell hbr6
      have hzr6 := hbr6.size
      try simp only [World.size_alloc, World.size_setCell, World.size_drew] at hzr6
      have hlr6w0 : w.heap.size < r6.heap.size := by omega
      have hlr6r20 : r2.heap.size < r6.heap.size := by omega
      have hlr6r30 : r3.heap.size < r6.heap.size := by omega
      have hlr6r40 : r4.heap.size < r6.heap.size := by omega
      go_wp2_with fail
      have hecr7 := @Ext.cell
      refine wp_region_ext (by kernel_rfl) (by kernel_rfl) ?_
      repeat (first | go_big_quiet_skip | (go_big_quiet_want; go_big_quiet_op; first | go_big_quiet_on | (go_big_quiet_call ((first | fail | (go_at_call 21; exact ext_call_same (size_any _ (by assumption) (by assumption) _)))))))
      clear hecr7
      refine wpQuiet_nil ?_
      rintro r7 ⟨⟨_, hbr7⟩, rfl⟩
      obtain ⟨hcr7, hfr7⟩ := bcell hbr7
      have hzr7 := hbr7.size
      try simp only [World.size_alloc, World.size_setCell, World.size_drew] at hzr7
      have hlr7w0 : w.heap.size < r7.heap.size := by omega
      have hlr7r20 : r2.heap.size < r7.heap.size := by omega
      have hlr7r30 : r3.heap.size < r7.heap.size := by omega
      have hlr7r40 : r4.heap.size < r7.heap.size := by omega
      go_wp2
      all_goals go_ret
      all_goals exact ⟨rfl, (by repeat' (first | (with_reducible exact Below.refl _ _) | (with_reducible refine bl_set ?_ _ ?_) | (with_reducible refine bl_alloc ?_ _) | (with_reducible refine bl_drew ?_) | (with_reducible refine bl_via (by with_reducible assumption) ?_) | (with_reducible assumption) | omega | (simp only []; omega) | (simp; omega)))⟩
    · clear o1
      go_enter Try.func4, Try.ntmps4
      go_wp2_with fail
      refine (lives_any _).mono ?_
      rintro _ r1 ⟨rfl, hbr1⟩
      obtain ⟨hcr1, hfr1⟩ := bcell hbr1
      have hzr1 := hbr1.size
      try simp only [World.size_alloc, World.size_setCell, World.size_drew] at hzr1
      have hlr1w0 : w.heap.size < r1.heap.size := by omega
      go_wp2_with fail
      refine (length_any a b c d e f ha0 ha1 hb0 hb1 hc0 hc1 hd0 hd1 he0 he1 hf0 hf1 _).mono ?_
      rintro _ r2 ⟨rfl, hbr2⟩
      obtain ⟨hcr2, hfr2⟩ := bcell hbr2
      have hzr2 := hbr2.size
      try simp only [World.size_alloc, World.size_setCell, World.size_drew] at hzr2
      have hlr2w0 : w.heap.size < r2.heap.size := by omega
      go_wp2_with fail
      refine (rlength_any a b c d e f ha0 ha1 hb0 hb1 hc0 hc1 hd0 hd1 he0 he1 hf0 hf1 _).mono ?_
      rintro _ r3 ⟨rfl, hbr3⟩
      obtain ⟨hcr3, hfr3⟩ := bcell hbr3
      have hzr3 := hbr3.size
      try simp only [World.size_alloc, World.size_setCell, World.size_drew] at hzr3
      have hlr3w0 : w.heap.size < r3.heap.size := by omega
      have hlr3r20 : r2.heap.size < r3.heap.size := by omega
      go_wp2_with fail
      refine (rvalues_any a b c d e f ha0 ha1 hb0 hb1 hc0 hc1 hd0 hd1 he0 he1 hf0 hf1 _).mono ?_
      rintro _ r4 ⟨rfl, hbr4⟩
      obtain ⟨hcr4, hfr4⟩ := bcell hbr4
      have hzr4 := hbr4.size
      try simp only [World.size_alloc, World.size_setCell, World.size_drew] at hzr4
      have hlr4w0 : w.heap.size < r4.heap.size := by omega
      have hlr4r20 : r2.heap.size < r4.heap.size := by omega
      have hlr4r30 : r3.heap.size < r4.heap.size := by omega
      go_wp2_with fail
      refine (rvalue_any (hi (sat (nsq (dot (val a b) (val c d) (val e f) (val a b) (val c d) (val e f))) 268435455)) (lo (sat (nsq (dot (val a b) (val c d) (val e f) (val a b) (val c d) (val e f))) 268435455)) (by omega) (by omega) (by omega) (by omega) _).mono ?_
      rintro _ r5 ⟨rfl, hbr5⟩
      obtain ⟨hcr5, hfr5⟩ := bcell hbr5
      have hzr5 := hbr5.size
      try simp only [World.size_alloc, World.size_setCell, World.size_drew] at hzr5
      have hlr5w0 : w.heap.size < r5.heap.size := by omega
      have hlr5r20 : r2.heap.size < r5.heap.size := by omega
      have hlr5r30 : r3.heap.size < r5.heap.size := by omega
      have hlr5r40 : r4.heap.size < r5.heap.size := by omega
      go_wp2_with fail
      refine (rexact_any a b c d e f a b c d e f ha0 ha1 hb0 hb1 hc0 hc1 hd0 hd1 he0 he1 hf0 hf1 ha0 ha1 hb0 hb1 hc0 hc1 hd0 hd1 he0 he1 hf0 hf1 _).mono ?_
      rintro _ r6 ⟨rfl, hbr6⟩
      obtain ⟨hcr6, hfr6⟩ := bcell hbr6
      have hzr6 := hbr6.size
      try simp only [World.size_alloc, World.size_setCell, World.size_drew] at hzr6
      have hlr6w0 : w.heap.size < r6.heap.size := by omega
      have hlr6r20 : r2.heap.size < r6.heap.size := by omega
      have hlr6r30 : r3.heap.size < r6.heap.size := by omega
      have hlr6r40 : r4.heap.size < r6.heap.size := by omega
      go_wp2_with fail
      have hecr7 := @Ext.cell
      refine wp_region_ext (by kernel_rfl) (by kernel_rfl) ?_
      repeat (first | go_big_quiet_skip | (go_big_quiet_want; go_big_quiet_op; first | go_big_quiet_on | (go_big_quiet_call ((first | fail | (go_at_call 21; exact ext_call_same (size_any _ (by assumption) (by assumption) _)))))))
      clear hecr7
      refine wpQuiet_nil ?_
      rintro r7 ⟨⟨_, hbr7⟩, rfl⟩
      obtain ⟨hcr7, hfr7⟩ := bcell hbr7
      have hzr7 := hbr7.size
      try simp only [World.size_alloc, World.size_setCell, World.size_drew] at hzr7
      have hlr7w0 : w.heap.size < r7.heap.size := by omega
      have hlr7r20 : r2.heap.size < r7.heap.size := by omega
      have hlr7r30 : r3.heap.size < r7.heap.size := by omega
      have hlr7r40 : r4.heap.size < r7.heap.size := by omega
      go_wp2
      all_goals go_ret
      all_goals exact ⟨rfl, (by repeat' (first | (with_reducible exact Below.refl _ _) | (with_reducible refine bl_set ?_ _ ?_) | (with_reducible refine bl_alloc ?_ _) | (with_reducible refine bl_drew ?_) | (with_reducible refine bl_via (by with_reducible assumption) ?_) | (with_reducible assumption) | omega | (simp only []; omega) | (simp; omega)))⟩
end Go.Proofs.Ytkgpdpengfdhbaa
