/- Contracts of fixed.root and fixed.Sqrt over this translation. -/
import Derived.Test.YtccnflemopajcaaDoorFa
import Derived.Test.YtccnflemopajcaaDoorKd
import Derived.Test.YtccnflemopajcaaDoorPc
namespace Go.Proofs.YtccnflemopajcaaDoor
set_option linter.unusedSimpArgs false
set_option linter.unusedVariables false
open Go.RowKit

theorem fsq_bd (x : Int) (h0 : 0 ≤ x) (h1 : x ≤ 2147483648) : 0 ≤ x * x ∧ x * x ≤ 4611686018427387904 :=
  ⟨Int.mul_nonneg h0 h0, sq_le x 2147483648 h0 h1⟩

set_option maxHeartbeats 1000000 in
theorem froot_any (n : Int) (h0 : 0 ≤ n) (h1 : n < 4611686018427387904) (w : World) :
    Calls Tryd.prog 40 #[.int .i64 n] w fun e w' => e = .returned (.int .i64 (isq n)) ∧ w = w' := by
  have hbs := fun r k a b c d e f => bit_step n r k a b c d e f
  have hun := fun r a b c => isq_unique n r a b c
  have HB := keep hbs
  have HU := keep hun
  have p31 : pw 31 = 2147483648 := by decide +kernel
  have P31 := keep p31
  clear hbs hun p31
  go_enter Tryd.func40, Tryd.ntmps40
  go_wp2_with fail
  go_loop [3, 6] (fun x i => ∃ k r : Int, 0 ≤ k ∧ k ≤ 31 ∧ i = .int .i64 k ∧ x = .int .i64 r ∧ 0 ≤ r ∧ Hid (r * r ≤ n ∧ n < (r + pw (31 - k)) * (r + pw (31 - k)) ∧ r + pw (31 - k) ≤ 2147483648)) (fun _ i => (31 - intOf i).toNat)
  case atStart => exact ⟨0, 0, by omega, by omega, rfl, rfl, by omega, by rw [show (31 : Int) - 0 = 31 from rfl, P31.out]; exact ⟨by omega, by omega, by omega⟩⟩
  case round =>
    obtain ⟨k, r, hk0, hk1, rfl, rfl, hr0, HR⟩ := hrel
    by_cases hlt : k < 31
    · have hb := HB.out r k hk0 (by omega) hr0 HR.out.1 HR.out.2.1 HR.out.2.2
      obtain ⟨b0, b1, b2, b3⟩ := hb
      have B2 := keep b2
      have B3 := keep b3
      clear b2 b3
      have e1 : wrap64 (2 ^ (30 - k).toNat) = pw (30 - k) := wrap64_in _ (by show _ ≤ pw _; have := pw_pos (30 - k); omega) (by show pw _ ≤ _; have := pw_le56 (30 - k) (by omega); omega)
      obtain ⟨q0, q1⟩ := fsq_bd (r + pw (30 - k)) b0 b1
      by_cases hq : (r + pw (30 - k)) * (r + pw (30 - k)) ≤ n
      · go_wp2
        go_round
        case rel => exact ⟨k + 1, r + pw (30 - k), by omega, by omega, rfl, rfl, b0, ⟨hq, B2.out hq⟩⟩
        case measure => simp [intOf]; omega
      · go_wp2
        go_round
        case rel => exact ⟨k + 1, r, by omega, by omega, rfl, rfl, hr0, ⟨HR.out.1, B3.out (by omega)⟩⟩
        case measure => simp [intOf]; omega
    · obtain rfl : k = 31 := by omega
      go_wp2
      go_ret
      refine ⟨ret_int (HU.out r hr0 HR.out.1 ?_).symm, rfl⟩
      have := HR.out.2.1
      rwa [show pw (31 - 31) = 1 from by decide +kernel] at this

theorem nsq_half (v : Int) (h0 : 0 ≤ v) (h1 : v ≤ 268435455) : 0 ≤ isq (v * 268435456) ∧ isq (v * 268435456) ≤ 268435455 ∧ isq (v * 268435456) * isq (v * 268435456) ≤ 72057593769492480 ∧ 0 ≤ isq (v * 268435456) * isq (v * 268435456) ∧ 0 ≤ nsq (v * 268435456) ∧ nsq (v * 268435456) ≤ 268435455 := by
  obtain ⟨i0, i1, i2⟩ := isq_spec (v * 268435456) (by omega)
  have i3 := isq_le (v * 268435456) 268435455 (by omega) (by omega) (by omega)
  have i4 := Int.mul_nonneg i0 i0
  refine ⟨i0, i3, by omega, i4, ?_, ?_⟩
  · unfold nsq; split <;> omega
  · unfold nsq
    split
    · rename_i h
      rcases Int.lt_or_le (isq (v * 268435456)) 268435455 with c | c
      · omega
      · exfalso
        have e : isq (v * 268435456) = 268435455 := by omega
        rw [e] at h
        omega
    · exact i3
set_option maxHeartbeats 1000000 in
theorem sqrt_neg (x y : Int) (hx0 : 0 ≤ x) (hx1 : x < 65536) (hy0 : 0 ≤ y) (hy1 : y < 65536) (h : val x y < 0) (w : World) :
    Calls Tryd.prog 25 #[(.agg #[.int .u16 (x), .int .u16 (y)])] w fun e w' => e = .returned (.tuple #[(.agg #[.int .u16 (0), .int .u16 (0)]), .bool true]) ∧ Below w.heap.size w w' := by
  go_enter Tryd.func25, Tryd.ntmps25
  go_wp2_with fail
  refine (value_any x y hx0 hx1 hy0 hy1 _).mono ?_
  rintro _ r1 ⟨rfl, hbr1⟩
  obtain ⟨hcr1, hfr1⟩ := bcell hbr1
  have hzr1 := hbr1.size
  try simp only [World.size_alloc, World.size_setCell, World.size_drew] at hzr1
  have hlr1w0 : w.heap.size < r1.heap.size := by omega
  have hlr1w1 : w.heap.size + 1 < r1.heap.size := by omega
  go_wp2
  refine bodyPost_ret (v := .tuple #[(.agg #[.int .u16 (0), .int .u16 (0)]), .bool true]) (by simp [results, Tryd.results25, go_sem, *]) rfl ⟨rfl, ?_⟩; exact (by repeat' (first | (with_reducible exact Below.refl _ _) | (with_reducible refine bl_set ?_ _ ?_) | (with_reducible refine bl_alloc ?_ _) | (with_reducible refine bl_drew ?_) | (with_reducible refine bl_via (by with_reducible assumption) ?_) | (with_reducible assumption) | omega | (simp only []; omega) | (simp; omega)))

set_option maxHeartbeats 1000000 in
theorem sqrt_pos (x y : Int) (hx0 : 0 ≤ x) (hx1 : x < 65536) (hy0 : 0 ≤ y) (hy1 : y < 65536) (h : 0 ≤ val x y) (w : World) :
    Calls Tryd.prog 25 #[(.agg #[.int .u16 (x), .int .u16 (y)])] w fun e w' => e = .returned (.tuple #[(.agg #[.int .u16 (hi (nsq (val x y * 268435456))), .int .u16 (lo (nsq (val x y * 268435456)))]), .bool false]) ∧ Below w.heap.size w w' := by
  have k1 := val_hi x y
  obtain ⟨i0, i1, i2, i3, n0, n1⟩ := nsq_half (val x y) h k1
  by_cases hq : isq (val x y * 268435456) < val x y * 268435456 - isq (val x y * 268435456) * isq (val x y * 268435456)
  · have hs : nsq (val x y * 268435456) = isq (val x y * 268435456) + 1 := by unfold nsq; rw [if_pos (by omega)]
    rw [hs] at n0 n1 ⊢; clear hs
    go_enter Tryd.func25, Tryd.ntmps25
    go_wp2_with fail
    refine (value_any x y hx0 hx1 hy0 hy1 _).mono ?_
    rintro _ r1 ⟨rfl, hbr1⟩
    obtain ⟨hcr1, hfr1⟩ := bcell hbr1
    have hzr1 := hbr1.size
    try simp only [World.size_alloc, World.size_setCell, World.size_drew] at hzr1
    have hlr1w0 : w.heap.size < r1.heap.size := by omega
    have hlr1w1 : w.heap.size + 1 < r1.heap.size := by omega
    go_wp2_with fail
    refine (froot_any (val x y * 268435456) (by omega) (by omega) _).mono ?_
    rintro _ _ ⟨rfl, rfl⟩
    go_wp2_with fail
    refine (exactly_in (isq (val x y * 268435456) + 1) (by omega) n1 _).mono ?_
    rintro _ r2 ⟨rfl, hbr2⟩
    obtain ⟨hcr2, hfr2⟩ := bcell hbr2
    have hzr2 := hbr2.size
    try simp only [World.size_alloc, World.size_setCell, World.size_drew] at hzr2
    have hlr2w0 : w.heap.size < r2.heap.size := by omega
    have hlr2w1 : w.heap.size + 1 < r2.heap.size := by omega
    go_wp2
    refine bodyPost_ret (v := .tuple #[(.agg #[.int .u16 (hi (isq (val x y * 268435456) + 1)), .int .u16 (lo (isq (val x y * 268435456) + 1))]), .bool false]) (by simp [results, Tryd.results25, go_sem, *]) rfl ⟨rfl, ?_⟩; exact (by repeat' (first | (with_reducible exact Below.refl _ _) | (with_reducible refine bl_set ?_ _ ?_) | (with_reducible refine bl_alloc ?_ _) | (with_reducible refine bl_drew ?_) | (with_reducible refine bl_via (by with_reducible assumption) ?_) | (with_reducible assumption) | omega | (simp only []; omega) | (simp; omega)))
  · have hs : nsq (val x y * 268435456) = isq (val x y * 268435456) := by unfold nsq; rw [if_neg (by omega)]
    rw [hs] at n0 n1 ⊢; clear hs
    go_enter Tryd.func25, Tryd.ntmps25
    go_wp2_with fail
    refine (value_any x y hx0 hx1 hy0 hy1 _).mono ?_
    rintro _ r1 ⟨rfl, hbr1⟩
    obtain ⟨hcr1, hfr1⟩ := bcell hbr1
    have hzr1 := hbr1.size
    try simp only [World.size_alloc, World.size_setCell, World.size_drew] at hzr1
    have hlr1w0 : w.heap.size < r1.heap.size := by omega
    have hlr1w1 : w.heap.size + 1 < r1.heap.size := by omega
    go_wp2_with fail
    refine (froot_any (val x y * 268435456) (by omega) (by omega) _).mono ?_
    rintro _ _ ⟨rfl, rfl⟩
    go_wp2_with fail
    refine (exactly_in (isq (val x y * 268435456)) (by omega) n1 _).mono ?_
    rintro _ r2 ⟨rfl, hbr2⟩
    obtain ⟨hcr2, hfr2⟩ := bcell hbr2
    have hzr2 := hbr2.size
    try simp only [World.size_alloc, World.size_setCell, World.size_drew] at hzr2
    have hlr2w0 : w.heap.size < r2.heap.size := by omega
    have hlr2w1 : w.heap.size + 1 < r2.heap.size := by omega
    go_wp2
    refine bodyPost_ret (v := .tuple #[(.agg #[.int .u16 (hi (isq (val x y * 268435456))), .int .u16 (lo (isq (val x y * 268435456)))]), .bool false]) (by simp [results, Tryd.results25, go_sem, *]) rfl ⟨rfl, ?_⟩; exact (by repeat' (first | (with_reducible exact Below.refl _ _) | (with_reducible refine bl_set ?_ _ ?_) | (with_reducible refine bl_alloc ?_ _) | (with_reducible refine bl_drew ?_) | (with_reducible refine bl_via (by with_reducible assumption) ?_) | (with_reducible assumption) | omega | (simp only []; omega) | (simp; omega)))
end Go.Proofs.YtccnflemopajcaaDoor
