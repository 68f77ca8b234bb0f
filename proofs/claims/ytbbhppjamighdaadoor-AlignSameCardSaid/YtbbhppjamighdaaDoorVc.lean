/- Contracts of package vector over this translation: root, Length. -/
import Derived.Test.YtbbhppjamighdaaDoorVa
namespace Go.Proofs.YtbbhppjamighdaaDoor
set_option linter.unusedSimpArgs false
set_option linter.unusedVariables false
open Go.RowKit

theorem sq_bd (x : Int) (h0 : 0 ≤ x) (h1 : x ≤ 2147483648) : 0 ≤ x * x ∧ x * x ≤ 4611686018427387904 :=
  ⟨Int.mul_nonneg h0 h0, sq_le x 2147483648 h0 h1⟩

set_option maxHeartbeats 1000000 in
theorem root_any (n : Int) (h0 : 0 ≤ n) (h1 : n < 4611686018427387904) (w : World) :
    Calls Tryd.prog 70 #[.int .i64 n] w fun e w' => e = .returned (.int .i64 (isq n)) ∧ w = w' := by
  have hbs := fun r k a b c d e f => bit_step n r k a b c d e f
  have hun := fun r a b c => isq_unique n r a b c
  have HB := keep hbs
  have HU := keep hun
  have p31 : pw 31 = 2147483648 := by decide +kernel
  have P31 := keep p31
  clear hbs hun p31
  go_enter Tryd.func70, Tryd.ntmps70
  go_wp2_with fail
  go_loop [3, 6] (fun x i => ∃ k r : Int, 0 ≤ k ∧ k ≤ 31 ∧ i = .int .i64 k ∧ x = .int .i64 r ∧ 0 ≤ r ∧ Hid (r * r ≤ n ∧ n < (r + pw (31 - k)) * (r + pw (31 - k)) ∧ r + pw (31 - k) ≤ 2147483648)) (fun _ i => (31 - intOf i).toNat)
  case atStart => exact ⟨0, 0, by omega, by omega, rfl, rfl, by omega, by rw [show (31 : Int) - 0 = 31 from rfl, P31.out]; exact ⟨by omega, by omega, by omega⟩⟩
  case round =>
    obtain ⟨k, r, hk0, hk1, rfl, rfl, hr0, HR⟩ := hrel
    by_cases hlt : k < 31
    · have hb := HB.out r k hk0 (by omega) hr0 HR.out.1 HR.out.2.1 HR.out.2.2
      obtain ⟨b0, b1, b2, b3⟩ := hb
      have B2 := keep b2
      have B3 := keep b3
      clear b2 b3
      have e1 : wrap64 (2 ^ (30 - k).toNat) = pw (30 - k) := wrap64_in _ (by show _ ≤ pw _; have := pw_pos (30 - k); omega) (by show pw _ ≤ _; have := pw_le56 (30 - k) (by omega); omega)
      obtain ⟨q0, q1⟩ := sq_bd (r + pw (30 - k)) b0 b1
      by_cases hq : (r + pw (30 - k)) * (r + pw (30 - k)) ≤ n
      · go_wp2
        go_round
        case rel => exact ⟨k + 1, r + pw (30 - k), by omega, by omega, rfl, rfl, b0, ⟨hq, B2.out hq⟩⟩
        case measure => simp [intOf]; omega
      · go_wp2
        go_round
        case rel => exact ⟨k + 1, r, by omega, by omega, rfl, rfl, hr0, ⟨HR.out.1, B3.out (by omega)⟩⟩
        case measure => simp [intOf]; omega
    · obtain rfl : k = 31 := by omega
      go_wp2
      go_ret
      refine ⟨ret_int (HU.out r hr0 HR.out.1 ?_).symm, rfl⟩
      have := HR.out.2.1
      rwa [show pw (31 - 31) = 1 from by decide +kernel] at this

set_option maxHeartbeats 1000000 in
theorem length_any (a b c d e f : Int) (ha0 : 0 ≤ a) (ha1 : a < 65536) (hb0 : 0 ≤ b) (hb1 : b < 65536) (hc0 : 0 ≤ c) (hc1 : c < 65536) (hd0 : 0 ≤ d) (hd1 : d < 65536) (he0 : 0 ≤ e) (he1 : e < 65536) (hf0 : 0 ≤ f) (hf1 : f < 65536) (w : World) :
    Calls Tryd.prog 42 #[(.agg #[.int .u16 (a), .int .u16 (b), .int .u16 (c), .int .u16 (d), .int .u16 (e), .int .u16 (f)])] w fun r w' =>
      r = .returned (.tuple #[(.agg #[.int .u16 (hi (sat (nsq (dot (val a b) (val c d) (val e f) (val a b) (val c d) (val e f))) 268435455)), .int .u16 (lo (sat (nsq (dot (val a b) (val c d) (val e f) (val a b) (val c d) (val e f))) 268435455))]), .bool (outb (nsq (dot (val a b) (val c d) (val e f) (val a b) (val c d) (val e f))) 268435455)]) ∧ Below w.heap.size w w' := by
  obtain ⟨⟨p0, p1⟩, ⟨p2, p3⟩, ⟨p4, p5⟩⟩ := dot_size (val a b) (val c d) (val e f) (val a b) (val c d) (val e f) (val_lo _ _) (val_hi _ _) (val_lo _ _) (val_hi _ _) (val_lo _ _) (val_hi _ _) (val_lo _ _) (val_hi _ _) (val_lo _ _) (val_hi _ _) (val_lo _ _) (val_hi _ _)
  obtain ⟨n, hn⟩ : ∃ n, val a b * val a b + val c d * val c d + val e f * val e f = n := ⟨_, rfl⟩
  have hd : dot (val a b) (val c d) (val e f) (val a b) (val c d) (val e f) = n := hn
  have n0 : 0 ≤ n := by
    rw [← hn]
    have := sqn (val a b)
    have := sqn (val c d)
    have := sqn (val e f)
    omega
  have n1 : n < 4611686018427387904 := by omega
  rw [hd]; clear hd
  obtain ⟨i0, i1, i2⟩ := isq_spec n n0
  have i3 := isq_le n 2147483647 n0 (by omega) (by omega)
  have i4 := Int.mul_nonneg i0 i0
  clear i2
  by_cases hq : isq n * isq n + isq n < n
  · have hs : nsq n = isq n + 1 := by unfold nsq; rw [if_pos hq]
    rw [hs]; clear hs
    have hq2 : isq n < n - isq n * isq n := by omega
    go_enter Tryd.func42, Tryd.ntmps42
    go_wp2_with fail
    refine (values_any a b c d e f ha0 ha1 hb0 hb1 hc0 hc1 hd0 hd1 he0 he1 hf0 hf1 _).mono ?_
    rintro _ r1 ⟨rfl, hbr1⟩
    obtain ⟨hcr1, hfr1⟩ := bcell hbr1
    have hzr1 := hbr1.size
    try simp only [World.size_alloc, World.size_setCell, World.size_drew] at hzr1
    have hlr1w0 : w.heap.size < r1.heap.size := by omega
    have hlr1w1 : w.heap.size + 1 < r1.heap.size := by omega
    go_wp2_with fail
    refine (root_any n n0 n1 _).mono ?_
    rintro _ _ ⟨rfl, rfl⟩
    go_wp2_with fail
    refine (clamp_any (isq n + 1) _).mono ?_
    rintro _ r2 ⟨rfl, hbr2⟩
    obtain ⟨hcr2, hfr2⟩ := bcell hbr2
    have hzr2 := hbr2.size
    try simp only [World.size_alloc, World.size_setCell, World.size_drew] at hzr2
    have hlr2w0 : w.heap.size < r2.heap.size := by omega
    have hlr2w1 : w.heap.size + 1 < r2.heap.size := by omega
    have hlr2r10 : r1.heap.size < r2.heap.size := by omega
    go_wp2
    refine bodyPost_ret (v := .tuple #[(.agg #[.int .u16 (hi (sat (isq n + 1) 268435455)), .int .u16 (lo (sat (isq n + 1) 268435455))]), .bool (outb (isq n + 1) 268435455)]) (by simp [results, Tryd.results42, go_sem, *]) rfl ⟨rfl, ?_⟩; exact (by repeat' (first | (with_reducible exact Below.refl _ _) | (with_reducible refine bl_set ?_ _ ?_) | (with_reducible refine bl_alloc ?_ _) | (with_reducible refine bl_drew ?_) | (with_reducible refine bl_via (by with_reducible assumption) ?_) | (with_reducible assumption) | omega | (simp only []; omega) | (simp; omega)))
  · have hs : nsq n = isq n := by unfold nsq; rw [if_neg hq]
    rw [hs]; clear hs
    have hq2 : ¬ isq n < n - isq n * isq n := by omega
    go_enter Tryd.func42, Tryd.ntmps42
    go_wp2_with fail
    refine (values_any a b c d e f ha0 ha1 hb0 hb1 hc0 hc1 hd0 hd1 he0 he1 hf0 hf1 _).mono ?_
    rintro _ r1 ⟨rfl, hbr1⟩
    obtain ⟨hcr1, hfr1⟩ := bcell hbr1
    have hzr1 := hbr1.size
    try simp only [World.size_alloc, World.size_setCell, World.size_drew] at hzr1
    have hlr1w0 : w.heap.size < r1.heap.size := by omega
    have hlr1w1 : w.heap.size + 1 < r1.heap.size := by omega
    go_wp2_with fail
    refine (root_any n n0 n1 _).mono ?_
    rintro _ _ ⟨rfl, rfl⟩
    go_wp2_with fail
    refine (clamp_any (isq n) _).mono ?_
    rintro _ r2 ⟨rfl, hbr2⟩
    obtain ⟨hcr2, hfr2⟩ := bcell hbr2
    have hzr2 := hbr2.size
    try simp only [World.size_alloc, World.size_setCell, World.size_drew] at hzr2
    have hlr2w0 : w.heap.size < r2.heap.size := by omega
    have hlr2w1 : w.heap.size + 1 < r2.heap.size := by omega
    have hlr2r10 : r1.heap.size < r2.heap.size := by omega
    go_wp2
    refine bodyPost_ret (v := .tuple #[(.agg #[.int .u16 (hi (sat (isq n) 268435455)), .int .u16 (lo (sat (isq n) 268435455))]), .bool (outb (isq n) 268435455)]) (by simp [results, Tryd.results42, go_sem, *]) rfl ⟨rfl, ?_⟩; exact (by repeat' (first | (with_reducible exact Below.refl _ _) | (with_reducible refine bl_set ?_ _ ?_) | (with_reducible refine bl_alloc ?_ _) | (with_reducible refine bl_drew ?_) | (with_reducible refine bl_via (by with_reducible assumption) ?_) | (with_reducible assumption) | omega | (simp only []; omega) | (simp; omega)))
end Go.Proofs.YtbbhppjamighdaaDoor
