/- Contracts of the reference of layer 15 that loop: Shift and Normal. -/
import Derived.Test.YtbbhppjamighdaaDoorRa
import Derived.Test.YtbbhppjamighdaaDoorDc
namespace Go.Proofs.YtbbhppjamighdaaDoor
set_option linter.unusedSimpArgs false
set_option linter.unusedVariables false
open Go.RowKit

theorem pw_add (j k : Int) (hj : 0 ≤ j) (hk : 0 ≤ k) : pw (j + k) = pw j * pw k := by
  unfold pw; rw [show (j + k).toNat = j.toNat + k.toNat from by omega, Int.pow_add]

theorem shl_stop (v n k : Int) (h0 : 0 ≤ k) (h1 : k ≤ n) (b0 : -536870910 ≤ v * pw k) (b1 : v * pw k ≤ 536870910)
    (h : k = n ∨ k = 56 ∨ outb (v * pw k) 268435455 = true) : sat (v * pw k) 268435455 = sat (shl v n) 268435455 ∧ outb (v * pw k) 268435455 = outb (shl v n) 268435455 := by
  unfold shl
  by_cases hv : v = 0
  · subst hv; simp
  have p1 := pw_pos k
  have hk : k ≤ 28 := by
    by_cases hk : k ≤ 28
    · exact hk
    · exfalso
      have p2 : 536870912 ≤ pw k := pw_mono 29 k (by omega)
      by_cases hp : 0 < v
      · have : 1 * pw k ≤ v * pw k := Int.mul_le_mul_of_nonneg_right (by omega) (by omega)
        omega
      · have : v * pw k ≤ -1 * pw k := Int.mul_le_mul_of_nonneg_right (by omega) (by omega)
        omega
  by_cases e : k = n
  · subst e; rw [show min k 29 = k from by omega]; exact ⟨rfl, rfl⟩
  have ho : outb (v * pw k) 268435455 = true := by rcases h with h | h | h <;> first | exact h | omega
  have hj : pw (min n 29) = pw k * pw (min n 29 - k) := by rw [← pw_add k _ h0 (by omega)]; congr 1; omega
  have p3 := pw_pos (min n 29 - k)
  have e2 : v * pw (min n 29) = v * pw k * pw (min n 29 - k) := by rw [hj, Int.mul_assoc]
  rw [ho]
  have ho' : 268435455 < v * pw k ∨ v * pw k < -268435455 := by simpa [outb] using ho
  rw [e2]
  generalize v * pw k = a at *
  generalize pw (min n 29 - k) = b at *
  rcases ho' with c | c
  · have : a * 1 ≤ a * b := Int.mul_le_mul_of_nonneg_left (by omega) (by omega)
    refine ⟨?_, ?_⟩
    · unfold sat; rw [if_pos c, if_pos (by omega)]
    · unfold outb; exact (decide_eq_true (by omega)).symm
  · have : (-a) * 1 ≤ (-a) * b := Int.mul_le_mul_of_nonneg_left (by omega) (by omega)
    rw [Int.neg_mul, Int.neg_mul] at this
    refine ⟨?_, ?_⟩
    · unfold sat; rw [if_neg (by omega), if_pos c, if_neg (by omega), if_pos (by omega)]
    · unfold outb; exact (decide_eq_true (by omega)).symm

set_option maxHeartbeats 400000 in
theorem rshift_neg (x y n : Int) (hx0 : 0 ≤ x) (hx1 : x < 65536) (hy0 : 0 ≤ y) (hy1 : y < 65536) (h : n < 0) (w : World) :
    Calls Tryd.prog 81 #[(.agg #[.int .u16 (x), .int .u16 (y)]), .int .i64 n] w fun e w' => e = .returned (.tuple #[(.agg #[.int .u16 (hi (rnd (val x y) (pw (min (-n) 56)))), .int .u16 (lo (rnd (val x y) (pw (min (-n) 56))))]), .bool false]) ∧ Below w.heap.size w w' := by
  have k0 := val_lo x y
  have k1 := val_hi x y
  obtain ⟨m, hm⟩ : ∃ m, max n (-56) = m := ⟨_, rfl⟩
  have hm0 : -56 ≤ m := by omega
  have hm1 : m < 0 := by omega
  rw [show min (-n) 56 = -m from by omega]
  obtain ⟨r0, r1'⟩ := rnd_size (val x y) (pw (-m)) 268435455 (pw_pos _) (by omega) k0 k1
  have p0 := pw_pos (-m)
  have p1 := pw_le56 (-m) (by omega)
  go_enter Tryd.func81, Tryd.ntmps81
  go_wp2_with fail
  refine (rvalue_any x y hx0 hx1 hy0 hy1 _).mono ?_
  rintro _ r1 ⟨rfl, hbr1⟩
  obtain ⟨hcr1, hfr1⟩ := bcell hbr1
  have hzr1 := hbr1.size
  try simp only [World.size_alloc, World.size_setCell, World.size_drew] at hzr1
  have hlr1w0 : w.heap.size < r1.heap.size := by omega
  have hlr1w1 : w.heap.size + 1 < r1.heap.size := by omega
  go_wp2_with fail
  go_loop [7, 8] (fun d i => ∃ k : Int, 0 ≤ k ∧ k ≤ -m ∧ i = .int .i64 k ∧ d = .int .i64 (pw k)) (fun _ i => (-m - intOf i).toNat)
  case atStart => exact ⟨0, by omega, by omega, rfl, rfl⟩
  case round =>
    obtain ⟨k, hk0, hk1, rfl, rfl⟩ := hrel
    have q0 := pw_pos k
    have q1 := pw_le56 k (by omega)
    by_cases hlt : k < -m
    · have q2 := pw_succ k hk0
      have HQ := keep q2
      clear q2
      go_wp2
      go_round
      case rel => exact ⟨k + 1, by omega, by omega, rfl, by rw [HQ.out]⟩
      case measure => simp [intOf]; omega
    · obtain rfl : k = -m := by omega
      go_wp2_with fail
      refine (rround_any (val x y) (pw (-m)) (by omega) (by omega) q0 (by omega) _).mono ?_
      rintro _ r2 ⟨rfl, hbr2⟩
      obtain ⟨hcr2, hfr2⟩ := bcell hbr2
      have hzr2 := hbr2.size
      try simp only [World.size_alloc, World.size_setCell, World.size_drew] at hzr2
      have hlr2w0 : w.heap.size < r2.heap.size := by omega
      have hlr2w1 : w.heap.size + 1 < r2.heap.size := by omega
      go_wp2_with fail
      refine (rdouble_any (rnd (val x y) (pw (-m))) r0 r1' _).mono ?_
      rintro _ r3 ⟨rfl, hbr3⟩
      obtain ⟨hcr3, hfr3⟩ := bcell hbr3
      have hzr3 := hbr3.size
      try simp only [World.size_alloc, World.size_setCell, World.size_drew] at hzr3
      have hlr3w0 : w.heap.size < r3.heap.size := by omega
      have hlr3w1 : w.heap.size + 1 < r3.heap.size := by omega
      go_wp2
      refine bodyPost_ret (v := .tuple #[(.agg #[.int .u16 (hi (rnd (val x y) (pw (-m)))), .int .u16 (lo (rnd (val x y) (pw (-m))))]), .bool false]) (by simp [results, Tryd.results81, go_sem, *]) rfl ⟨rfl, ?_⟩; exact (by repeat' (first | (with_reducible exact Below.refl _ _) | (with_reducible refine bl_set ?_ _ ?_) | (with_reducible refine bl_alloc ?_ _) | (with_reducible refine bl_drew ?_) | (with_reducible refine bl_via (by with_reducible assumption) ?_) | (with_reducible assumption) | omega | (simp only []; omega) | (simp; omega)))

set_option maxHeartbeats 400000 in
theorem rshift_pos (x y n : Int) (hx0 : 0 ≤ x) (hx1 : x < 65536) (hy0 : 0 ≤ y) (hy1 : y < 65536) (h : 0 ≤ n) (h2 : n ≤ 9223372036854775807) (w : World) :
    Calls Tryd.prog 81 #[(.agg #[.int .u16 (x), .int .u16 (y)]), .int .i64 n] w fun e w' => e = .returned (.tuple #[(.agg #[.int .u16 (hi (sat (shl (val x y) n) 268435455)), .int .u16 (lo (sat (shl (val x y) n) 268435455))]), .bool (outb (shl (val x y) n) 268435455)]) ∧ Below w.heap.size w w' := by
  have k0 := val_lo x y
  have k1 := val_hi x y
  have hm : max n (-56) = n := by omega
  have hstop := fun k a b c d e => shl_stop (val x y) n k a b c d e
  have HS := keep hstop
  clear hstop
  go_enter Tryd.func81, Tryd.ntmps81
  go_wp2_with fail
  refine (rvalue_any x y hx0 hx1 hy0 hy1 _).mono ?_
  rintro _ r1 ⟨rfl, hbr1⟩
  obtain ⟨hcr1, hfr1⟩ := bcell hbr1
  have hzr1 := hbr1.size
  try simp only [World.size_alloc, World.size_setCell, World.size_drew] at hzr1
  have hlr1w0 : w.heap.size < r1.heap.size := by omega
  have hlr1w1 : w.heap.size + 1 < r1.heap.size := by omega
  go_wp2_with fail
  go_loop [6, 9] (fun d i => ∃ k u : Int, 0 ≤ k ∧ k ≤ n ∧ k ≤ 56 ∧ i = .int .i64 k ∧ d = .int .i64 u ∧ u = val x y * pw k ∧ -536870910 ≤ u ∧ u ≤ 536870910) (fun _ i => (56 - intOf i).toNat)
  case atStart => exact ⟨0, val x y, by omega, by omega, by omega, rfl, rfl, (Int.mul_one _).symm, by omega, by omega⟩
  case round =>
    obtain ⟨k, u, hk0, hk1, hk2, rfl, rfl, hu, hu0, hu1⟩ := hrel
    have HU := keep hu
    clear hu
    by_cases c1 : k < n
    · by_cases c2 : k < 56
      · by_cases c3 : outb u 268435455 = true
        · have hs := HS.out k hk0 hk1 (by rw [← HU.out]; exact hu0) (by rw [← HU.out]; exact hu1) (.inr (.inr (by rw [← HU.out]; exact c3)))
          rw [← HU.out] at hs
          have H2 := keep hs
          clear hs
          go_wp2_with fail
          refine (rout_any u 268435455 (by omega) (by omega) _).mono ?_
          rintro _ _ ⟨rfl, rfl⟩
          go_wp2_with fail
          refine (rclamp_any u _).mono ?_
          rintro _ r2 ⟨rfl, hbr2⟩
          obtain ⟨hcr2, hfr2⟩ := bcell hbr2
          have hzr2 := hbr2.size
          try simp only [World.size_alloc, World.size_setCell, World.size_drew] at hzr2
          have hlr2w0 : w.heap.size < r2.heap.size := by omega
          have hlr2w1 : w.heap.size + 1 < r2.heap.size := by omega
          go_wp2
          refine bodyPost_ret (v := .tuple #[(.agg #[.int .u16 (hi (sat u 268435455)), .int .u16 (lo (sat u 268435455))]), .bool (outb u 268435455)]) (by simp [results, Tryd.results81, go_sem, *]) rfl ⟨by rw [H2.out.1, H2.out.2], ?_⟩; exact (by repeat' (first | (with_reducible exact Below.refl _ _) | (with_reducible refine bl_set ?_ _ ?_) | (with_reducible refine bl_alloc ?_ _) | (with_reducible refine bl_drew ?_) | (with_reducible refine bl_via (by with_reducible assumption) ?_) | (with_reducible assumption) | omega | (simp only []; omega) | (simp; omega)))
        · have c4 : outb u 268435455 = false := by simpa using c3
          clear c3
          have c5 : -268435455 ≤ u ∧ u ≤ 268435455 := by have := of_decide_eq_false (show decide (268435455 < u ∨ u < -268435455) = false from c4); omega
          obtain ⟨c6, c7⟩ := c5
          have q2 := pw_succ k hk0
          have HQ := keep q2
          clear q2
          go_wp2_with fail
          refine (rout_any u 268435455 (by omega) (by omega) _).mono ?_
          rintro _ _ ⟨rfl, rfl⟩
          go_wp2
          go_round
          case rel => exact ⟨k + 1, 2 * u, by omega, by omega, by omega, rfl, rfl, by rw [HQ.out, HU.out]; rw [Int.mul_left_comm], by omega, by omega⟩
          case measure => simp [intOf]; omega
      · have c2' : decide (k < 56) = false := decide_eq_false c2
        have hs := HS.out k hk0 hk1 (by rw [← HU.out]; exact hu0) (by rw [← HU.out]; exact hu1) (.inr (.inl (by omega)))
        rw [← HU.out] at hs
        have H2 := keep hs
        clear hs
        go_wp2_with fail
        refine (rclamp_any u _).mono ?_
        rintro _ r2 ⟨rfl, hbr2⟩
        obtain ⟨hcr2, hfr2⟩ := bcell hbr2
        have hzr2 := hbr2.size
        try simp only [World.size_alloc, World.size_setCell, World.size_drew] at hzr2
        have hlr2w0 : w.heap.size < r2.heap.size := by omega
        have hlr2w1 : w.heap.size + 1 < r2.heap.size := by omega
        go_wp2
        refine bodyPost_ret (v := .tuple #[(.agg #[.int .u16 (hi (sat u 268435455)), .int .u16 (lo (sat u 268435455))]), .bool (outb u 268435455)]) (by simp [results, Tryd.results81, go_sem, *]) rfl ⟨by rw [H2.out.1, H2.out.2], ?_⟩; exact (by repeat' (first | (with_reducible exact Below.refl _ _) | (with_reducible refine bl_set ?_ _ ?_) | (with_reducible refine bl_alloc ?_ _) | (with_reducible refine bl_drew ?_) | (with_reducible refine bl_via (by with_reducible assumption) ?_) | (with_reducible assumption) | omega | (simp only []; omega) | (simp; omega)))
    · have c1' : decide (k < n) = false := decide_eq_false c1
      have hs := HS.out k hk0 hk1 (by rw [← HU.out]; exact hu0) (by rw [← HU.out]; exact hu1) (.inl (by omega))
      rw [← HU.out] at hs
      have H2 := keep hs
      clear hs
      go_wp2_with fail
      refine (rclamp_any u _).mono ?_
      rintro _ r2 ⟨rfl, hbr2⟩
      obtain ⟨hcr2, hfr2⟩ := bcell hbr2
      have hzr2 := hbr2.size
      try simp only [World.size_alloc, World.size_setCell, World.size_drew] at hzr2
      have hlr2w0 : w.heap.size < r2.heap.size := by omega
      have hlr2w1 : w.heap.size + 1 < r2.heap.size := by omega
      go_wp2
      refine bodyPost_ret (v := .tuple #[(.agg #[.int .u16 (hi (sat u 268435455)), .int .u16 (lo (sat u 268435455))]), .bool (outb u 268435455)]) (by simp [results, Tryd.results81, go_sem, *]) rfl ⟨by rw [H2.out.1, H2.out.2], ?_⟩; exact (by repeat' (first | (with_reducible exact Below.refl _ _) | (with_reducible refine bl_set ?_ _ ?_) | (with_reducible refine bl_alloc ?_ _) | (with_reducible refine bl_drew ?_) | (with_reducible refine bl_via (by with_reducible assumption) ?_) | (with_reducible assumption) | omega | (simp only []; omega) | (simp; omega)))

theorem rshift_any (x y n : Int) (hx0 : 0 ≤ x) (hx1 : x < 65536) (hy0 : 0 ≤ y) (hy1 : y < 65536) (h2 : n ≤ 9223372036854775807) (w : World) :
    Calls Tryd.prog 81 #[(.agg #[.int .u16 (x), .int .u16 (y)]), .int .i64 n] w fun e w' => e = .returned (.tuple #[(.agg #[.int .u16 (hi (shv (val x y) n)), .int .u16 (lo (shv (val x y) n))]), .bool (sho (val x y) n)]) ∧ Below w.heap.size w w' := by
  by_cases hn : n < 0
  · rw [shv_neg _ _ hn, sho_neg _ _ hn]; exact rshift_neg x y n hx0 hx1 hy0 hy1 hn w
  · rw [shv_nn _ _ (by omega), sho_nn _ _ (by omega)]; exact rshift_pos x y n hx0 hx1 hy0 hy1 (by omega) h2 w

theorem nrm_step (v k : Int) (hv : v ≠ 0) (h0 : -268435455 ≤ v) (h1 : v ≤ 268435455) (g0 : 0 ≤ k) (g1 : k < nrn v) : -134217728 < v * pw k ∧ v * pw k < 134217728 := by
  obtain ⟨_, _, _, d⟩ := nrn_spec v hv h0 h1
  have m0 : 0 ≤ mag v := by unfold mag; split <;> omega
  have e := pw_mono (k + 1) (nrn v) (by omega)
  rw [pw_succ k g0] at e
  have e2 := Int.mul_le_mul_of_nonneg_left e m0
  rw [Int.mul_left_comm] at e2
  have e3 : mag v * pw k < 134217728 := by omega
  unfold mag at e3
  split at e3
  · rename_i h
    rw [Int.neg_mul] at e3
    have := pw_pos k
    have : v * pw k ≤ 0 * pw k := Int.mul_le_mul_of_nonneg_right (by omega) (by omega)
    omega
  · have := pw_pos k
    have : 0 * pw k ≤ v * pw k := Int.mul_le_mul_of_nonneg_right (by omega) (by omega)
    omega

end Go.Proofs.YtbbhppjamighdaaDoor
