/- bits.Len64 and Normal over this translation: the walk of Len64 is the shelf's worked one, turned to this translation. -/
import Derived.Test.YtbbhppjamighdaaDoorDb
import Derived.Lib.Strings
import Derived.Lib.Slices
import Derived.Lib.Small
import Derived.Lib.Walk
import Derived.Lib.BitFns
namespace Go.Proofs.YtbbhppjamighdaaDoor
set_option linter.unusedSimpArgs false
set_option linter.unusedVariables false
open Go.RowKit

/-! ### Normal -/
def nrn (v : Int) : Int := 28 - (Lib.bitLen v.natAbs : Int)

set_option maxHeartbeats 1000000 in
theorem len_any (x : Int) (h0 : 0 ≤ x) (h1 : x ≤ 268435455) (w : World) :
    Calls Tryd.prog 85 #[.int .u64 x] w fun e w' => e = .returned (.int .i64 (Lib.bitLen x.toNat)) ∧ w = w' := by
  have hx1 : 0 ≤ x := h0
  have hc : (256 ≤ x → 65536 ≤ x ∨ x < 65536) := fun _ => by omega
  clear hc
  by_cases c1 : x < 256
  ·
    have g0 : 0 ≤ x := by omega
    have g1 : x ≤ 255 := by omega
    go_enter Tryd.func85, Tryd.ntmps85
    go_wp2
    go_ret
    refine ⟨ret_int ?_, rfl⟩
    clear hx1
    rw [Lib.len8_of (x) g0 g1]
    have e : (x).toNat = x.toNat := by omega
    have l := Lib.bitLen_le8' (x) g0 g1
    have s := 0
    rw [e] at l ⊢
    first | omega | (unfold wrap64; omega)
  by_cases c2 : x < 65536
  ·
    have g0 : 0 ≤ x / 256 := by omega
    have g1 : x / 256 ≤ 255 := by omega
    go_enter Tryd.func85, Tryd.ntmps85
    go_wp2
    go_ret
    refine ⟨ret_int ?_, rfl⟩
    clear hx1
    rw [Lib.len8_of (x / 256) g0 g1]
    have e : (x / 256).toNat = x.toNat / 256 := by omega
    have l := Lib.bitLen_le8' (x / 256) g0 g1
    have s := Lib.bitLen_shift8 x.toNat (by omega) (by omega)
    rw [e] at l ⊢
    first | omega | (unfold wrap64; omega)
  by_cases c3 : x < 16777216
  ·
    have g0 : 0 ≤ x / 65536 := by omega
    have g1 : x / 65536 ≤ 255 := by omega
    go_enter Tryd.func85, Tryd.ntmps85
    go_wp2
    go_ret
    refine ⟨ret_int ?_, rfl⟩
    clear hx1
    rw [Lib.len8_of (x / 65536) g0 g1]
    have e : (x / 65536).toNat = x.toNat / 65536 := by omega
    have l := Lib.bitLen_le8' (x / 65536) g0 g1
    have s := Lib.bitLen_shift16 x.toNat (by omega) (by omega)
    rw [e] at l ⊢
    first | omega | (unfold wrap64; omega)
  ·
    have g0 : 0 ≤ x / 65536 / 256 := by omega
    have g1 : x / 65536 / 256 ≤ 255 := by omega
    go_enter Tryd.func85, Tryd.ntmps85
    go_wp2
    go_ret
    refine ⟨ret_int ?_, rfl⟩
    clear hx1
    rw [Lib.len8_of (x / 65536 / 256) g0 g1]
    have e : (x / 65536 / 256).toNat = x.toNat / 16777216 := by omega
    have l := Lib.bitLen_le8' (x / 65536 / 256) g0 g1
    have s := Lib.bitLen_shift24 x.toNat (by omega) (by omega)
    rw [e] at l ⊢
    first | omega | (unfold wrap64; omega)

theorem bitLen28 (k : Nat) (h0 : 0 < k) (h1 : k ≤ 268435455) : 1 ≤ Lib.bitLen k ∧ Lib.bitLen k ≤ 28 ∧ 2 ^ (Lib.bitLen k - 1) ≤ k ∧ k < 2 ^ Lib.bitLen k := by
  have key : ∀ (n k : Nat), 0 < k → k < 2 ^ n → n ≤ 28 → 1 ≤ Lib.bitLen k ∧ 2 ^ (Lib.bitLen k - 1) ≤ k ∧ k < 2 ^ Lib.bitLen k := by
    intro n
    induction n with
    | zero => intro k a b; omega
    | succ n ih =>
      intro k a b c
      rw [Nat.pow_succ] at b
      have hk : k < 2 ^ 64 := by
        have : 2 ^ n ≤ 2 ^ 28 := Nat.pow_le_pow_right (by decide) (by omega)
        omega
      rw [Lib.bitLen_half k (by omega) hk]
      by_cases e : k / 2 = 0
      · have e1 : k = 1 := by omega
        subst e1
        decide
      · obtain ⟨i1, i2, i3⟩ := ih (k / 2) (by omega) (by omega) (by omega)
        have e2 : 1 + Lib.bitLen (k / 2) - 1 = (Lib.bitLen (k / 2) - 1) + 1 := by omega
        rw [e2, Nat.pow_succ, show 1 + Lib.bitLen (k / 2) = Lib.bitLen (k / 2) + 1 from by omega, Nat.pow_succ]
        exact ⟨by omega, by omega, by omega⟩
  obtain ⟨i1, i2, i3⟩ := key 28 k h0 (by omega) (by omega)
  exact ⟨i1, Lib.bitLen_le k 28 (by omega) (by omega), i2, i3⟩

theorem nrn_spec (v : Int) (hv : v ≠ 0) (h0 : -268435455 ≤ v) (h1 : v ≤ 268435455) : 0 ≤ nrn v ∧ nrn v ≤ 27 ∧ 134217728 ≤ mag v * pw (nrn v) ∧ mag v * pw (nrn v) < 268435456 := by
  have em : mag v = (v.natAbs : Int) := by unfold mag; split <;> omega
  obtain ⟨a, b, c, d⟩ := bitLen28 v.natAbs (by omega) (by omega)
  have e : nrn v = ((28 - Lib.bitLen v.natAbs : Nat) : Int) := by unfold nrn; omega
  refine ⟨by omega, by omega, ?_⟩
  have ep : pw (nrn v) = ((2 ^ (28 - Lib.bitLen v.natAbs) : Nat) : Int) := by
    unfold pw; rw [e]; simp
  rw [em, ep]
  generalize v.natAbs = k at *
  generalize hB : Lib.bitLen k = B at *
  have e1 : 2 ^ (B - 1) * 2 ^ (28 - B) = 134217728 := by rw [← Nat.pow_add, show B - 1 + (28 - B) = 27 from by omega]
  have e2 : 2 ^ B * 2 ^ (28 - B) = 268435456 := by rw [← Nat.pow_add, show B + (28 - B) = 28 from by omega]
  have g1 := Nat.mul_le_mul_right (2 ^ (28 - B)) c
  have g2 := Nat.mul_lt_mul_of_pos_right d (show 0 < 2 ^ (28 - B) from Nat.two_pow_pos _)
  have n1 : 134217728 ≤ k * 2 ^ (28 - B) := by omega
  have n2 : k * 2 ^ (28 - B) < 268435456 := by omega
  rw [← Int.natCast_mul]
  clear g1 g2 e1 e2 c d ep
  generalize k * 2 ^ (28 - B) = q at *
  exact ⟨by omega, by omega⟩

/-- The value shifted left till its magnitude is at least 2^27. -/
def nrv (v : Int) : Int := v * pw (nrn v)
theorem nrv_size (v : Int) (hv : v ≠ 0) (h0 : -268435455 ≤ v) (h1 : v ≤ 268435455) : -268435455 ≤ nrv v ∧ nrv v ≤ 268435455 ∧ (nrv v ≤ -134217728 ∨ 134217728 ≤ nrv v) := by
  obtain ⟨_, _, c, d⟩ := nrn_spec v hv h0 h1
  unfold nrv
  unfold mag at c d
  split at c
  · rename_i h
    rw [if_pos h] at d
    rw [Int.neg_mul] at c d
    omega
  · rename_i h
    rw [if_neg h] at d
    omega

set_option maxHeartbeats 400000 in
theorem normal_zero (x y : Int) (hx0 : 0 ≤ x) (hx1 : x < 65536) (hy0 : 0 ≤ y) (hy1 : y < 65536) (h : val x y = 0) (w : World) :
    Calls Tryd.prog 69 #[(.agg #[.int .u16 (x), .int .u16 (y)])] w fun e w' => e = .returned (.tuple #[(.agg #[.int .u16 (0), .int .u16 (0)]), .int .i64 0]) ∧ Below w.heap.size w w' := by
  go_enter Tryd.func69, Tryd.ntmps69
  go_wp2_with fail
  refine (value_any x y hx0 hx1 hy0 hy1 _).mono ?_
  rintro _ r1 ⟨rfl, hbr1⟩
  obtain ⟨hcr1, hfr1⟩ := bcell hbr1
  have hzr1 := hbr1.size
  try simp only [World.size_alloc, World.size_setCell, World.size_drew] at hzr1
  have hlr1w0 : w.heap.size < r1.heap.size := by omega
  have hlr1w1 : w.heap.size + 1 < r1.heap.size := by omega
  go_wp2
  refine bodyPost_ret (v := .tuple #[(.agg #[.int .u16 (0), .int .u16 (0)]), .int .i64 0]) (by simp [results, Tryd.results69, go_sem, *]) rfl ⟨rfl, ?_⟩; exact (by repeat' (first | (with_reducible exact Below.refl _ _) | (with_reducible refine bl_set ?_ _ ?_) | (with_reducible refine bl_alloc ?_ _) | (with_reducible refine bl_drew ?_) | (with_reducible refine bl_via (by with_reducible assumption) ?_) | (with_reducible assumption) | omega | (simp only []; omega) | (simp; omega)))

set_option maxHeartbeats 400000 in
theorem normal_any (x y : Int) (hx0 : 0 ≤ x) (hx1 : x < 65536) (hy0 : 0 ≤ y) (hy1 : y < 65536) (h : ¬ val x y = 0) (w : World) :
    Calls Tryd.prog 69 #[(.agg #[.int .u16 (x), .int .u16 (y)])] w fun e w' => e = .returned (.tuple #[(.agg #[.int .u16 (hi (nrv (val x y))), .int .u16 (lo (nrv (val x y)))]), .int .i64 (nrn (val x y))]) ∧ Below w.heap.size w w' := by
  have k0 := val_lo x y
  have k1 := val_hi x y
  obtain ⟨n0, n1, _, _⟩ := nrn_spec (val x y) h k0 k1
  obtain ⟨z0, z1, _⟩ := nrv_size (val x y) h k0 k1
  have m0 : 0 ≤ mag (val x y) := by unfold mag; split <;> omega
  have m1 : mag (val x y) ≤ 268435455 := by unfold mag; split <;> omega
  obtain ⟨b0, b1, b2, b3⟩ := hi_lo (mag (val x y)) (by omega) m1
  have ev : val (hi (mag (val x y))) (lo (mag (val x y))) = mag (val x y) := val_of _ (by omega) m1
  have eb : (28 : Int) - ↑(Lib.bitLen (mag (val x y)).toNat) = nrn (val x y) := by
    unfold nrn; congr 3; unfold mag; split <;> omega
  have p1 : wrap64 (2 ^ (nrn (val x y)).toNat) = pw (nrn (val x y)) := wrap64_in _ (by show _ ≤ pw _; have := pw_pos (nrn (val x y)); omega) (by show pw _ ≤ _; have := pw_le28 (nrn (val x y)) (by omega); omega)
  have p2 : wrap64 (val x y * pw (nrn (val x y))) = nrv (val x y) := wrap64_in _ (by show _ ≤ nrv _; omega) (by show nrv _ ≤ _; omega)
  have eu : IntKind.u64.wrap (mag (val x y)) = mag (val x y) := by rw [IntKind.wrap_u64]; omega
  go_enter Tryd.func69, Tryd.ntmps69
  go_wp2_with fail
  refine (value_any x y hx0 hx1 hy0 hy1 _).mono ?_
  rintro _ r1 ⟨rfl, hbr1⟩
  obtain ⟨hcr1, hfr1⟩ := bcell hbr1
  have hzr1 := hbr1.size
  try simp only [World.size_alloc, World.size_setCell, World.size_drew] at hzr1
  have hlr1w0 : w.heap.size < r1.heap.size := by omega
  have hlr1w1 : w.heap.size + 1 < r1.heap.size := by omega
  go_wp2_with fail
  refine (abs_any x y hx0 hx1 hy0 hy1 _).mono ?_
  rintro _ r2 ⟨rfl, hbr2⟩
  obtain ⟨hcr2, hfr2⟩ := bcell hbr2
  have hzr2 := hbr2.size
  try simp only [World.size_alloc, World.size_setCell, World.size_drew] at hzr2
  have hlr2w0 : w.heap.size < r2.heap.size := by omega
  have hlr2w1 : w.heap.size + 1 < r2.heap.size := by omega
  go_wp2_with fail
  refine (value_any _ _ b0 (by omega) b2 (by omega) _).mono ?_
  rintro _ r3 ⟨rfl, hbr3⟩
  obtain ⟨hcr3, hfr3⟩ := bcell hbr3
  have hzr3 := hbr3.size
  try simp only [World.size_alloc, World.size_setCell, World.size_drew] at hzr3
  have hlr3w0 : w.heap.size < r3.heap.size := by omega
  have hlr3w1 : w.heap.size + 1 < r3.heap.size := by omega
  go_wp2_with fail
  refine (len_any (mag (val x y)) m0 (by omega) _).mono ?_
  rintro _ _ ⟨rfl, rfl⟩
  go_wp2_with fail
  refine (double_any (nrv (val x y)) z0 z1 _).mono ?_
  rintro _ r4 ⟨rfl, hbr4⟩
  obtain ⟨hcr4, hfr4⟩ := bcell hbr4
  have hzr4 := hbr4.size
  try simp only [World.size_alloc, World.size_setCell, World.size_drew] at hzr4
  have hlr4w0 : w.heap.size < r4.heap.size := by omega
  have hlr4w1 : w.heap.size + 1 < r4.heap.size := by omega
  go_wp2
  refine bodyPost_ret (v := .tuple #[(.agg #[.int .u16 (hi (nrv (val x y))), .int .u16 (lo (nrv (val x y)))]), .int .i64 (nrn (val x y))]) (by simp [results, Tryd.results69, go_sem, *]) rfl ⟨rfl, ?_⟩; exact (by repeat' (first | (with_reducible exact Below.refl _ _) | (with_reducible refine bl_set ?_ _ ?_) | (with_reducible refine bl_alloc ?_ _) | (with_reducible refine bl_drew ?_) | (with_reducible refine bl_via (by with_reducible assumption) ?_) | (with_reducible assumption) | omega | (simp only []; omega) | (simp; omega)))
end Go.Proofs.YtbbhppjamighdaaDoor
