/- More contracts of package double over this translation: Cmp, Make, Shift, Normal. -/
import Derived.Test.YtbbhppjamighdaaDoorDa
import Derived.Test.YtbbhppjamighdaaDoorEq
import Derived.Lib.BitFns
namespace Go.Proofs.YtbbhppjamighdaaDoor
set_option linter.unusedSimpArgs false
set_option linter.unusedVariables false
open Go.RowKit

def cmpv (a b : Int) : Int := if a = b then 0 else if a < b then -1 else 1
theorem dbl_neb (a b : Int) (h0 : -268435455 ≤ a) (h1 : a ≤ 268435455) (g0 : -268435455 ≤ b) (g1 : b ≤ 268435455) (h : a ≠ b) : (hi a == hi b && lo a == lo b) = false := by
  cases e : (hi a == hi b && lo a == lo b) with
  | false => rfl
  | true =>
    simp only [Bool.and_eq_true, beq_iff_eq] at e
    have x := val_of a h0 h1
    have y := val_of b g0 g1
    rw [e.1, e.2] at x
    omega
theorem dbl_ne (a b : Int) (h0 : -268435455 ≤ a) (h1 : a ≤ 268435455) (g0 : -268435455 ≤ b) (g1 : b ≤ 268435455) (h : a ≠ b) : ¬(hi a = hi b ∧ lo a = lo b) := fun ⟨e1, e2⟩ => by
  have x := val_of a h0 h1
  have y := val_of b g0 g1
  rw [e1, e2] at x
  omega



/-! ### Shift -/
def shl (v n : Int) : Int := v * pw (min n 29)
def shv (v n : Int) : Int := if n < 0 then rnd v (pw (min (-n) 56)) else sat (shl v n) 268435455
def sho (v n : Int) : Bool := if n < 0 then false else outb (shl v n) 268435455

theorem sho_neg (v n : Int) (h : n < 0) : sho v n = false := by unfold sho; rw [if_pos h]
theorem shv_neg (v n : Int) (h : n < 0) : shv v n = rnd v (pw (min (-n) 56)) := by unfold shv; rw [if_pos h]
theorem shv_nn (v n : Int) (h : 0 ≤ n) : shv v n = sat (shl v n) 268435455 := by unfold shv; rw [if_neg (by omega)]
theorem sho_nn (v n : Int) (h : 0 ≤ n) : sho v n = outb (shl v n) 268435455 := by unfold sho; rw [if_neg (by omega)]
theorem shv_size (v n : Int) (h0 : -268435455 ≤ v) (h1 : v ≤ 268435455) : -268435455 ≤ shv v n ∧ shv v n ≤ 268435455 := by
  unfold shv
  split
  · exact rnd_size v _ 268435455 (pw_pos _) (by omega) h0 h1
  · exact ⟨sat_lo _ _ (by omega), sat_hi _ _ (by omega)⟩

set_option maxHeartbeats 400000 in
theorem shift_neg (x y n : Int) (hx0 : 0 ≤ x) (hx1 : x < 65536) (hy0 : 0 ≤ y) (hy1 : y < 65536) (h : n < 0) (h2 : -9223372036854775808 ≤ n) (w : World) :
    Calls Tryd.prog 80 #[(.agg #[.int .u16 (x), .int .u16 (y)]), .int .i64 n] w fun e w' => e = .returned (.tuple #[(.agg #[.int .u16 (hi (rnd (val x y) (pw (min (-n) 56)))), .int .u16 (lo (rnd (val x y) (pw (min (-n) 56))))]), .bool false]) ∧ Below w.heap.size w w' := by
  have k0 := val_lo x y
  have k1 := val_hi x y
  by_cases hm : n < -56
  · rw [show min (-n) 56 = 56 from by omega]
    obtain ⟨r0, r1'⟩ := rnd_size (val x y) (pw 56) 268435455 (pw_pos _) (by omega) k0 k1
    go_enter Tryd.func80, Tryd.ntmps80
    go_wp2_with fail
    refine (value_any x y hx0 hx1 hy0 hy1 _).mono ?_
    rintro _ r1 ⟨rfl, hbr1⟩
    obtain ⟨hcr1, hfr1⟩ := bcell hbr1
    have hzr1 := hbr1.size
    try simp only [World.size_alloc, World.size_setCell, World.size_drew] at hzr1
    have hlr1w0 : w.heap.size < r1.heap.size := by omega
    have hlr1w1 : w.heap.size + 1 < r1.heap.size := by omega
    go_wp2_with fail
    refine (half_any (val x y) 56 (by omega) (by omega) (by omega) (by omega) _).mono ?_
    rintro _ _ ⟨rfl, rfl⟩
    go_wp2_with fail
    refine (double_any (rnd (val x y) (pw 56)) r0 r1' _).mono ?_
    rintro _ r2 ⟨rfl, hbr2⟩
    obtain ⟨hcr2, hfr2⟩ := bcell hbr2
    have hzr2 := hbr2.size
    try simp only [World.size_alloc, World.size_setCell, World.size_drew] at hzr2
    have hlr2w0 : w.heap.size < r2.heap.size := by omega
    have hlr2w1 : w.heap.size + 1 < r2.heap.size := by omega
    go_wp2
    refine bodyPost_ret (v := .tuple #[(.agg #[.int .u16 (hi (rnd (val x y) (pw 56))), .int .u16 (lo (rnd (val x y) (pw 56)))]), .bool false]) (by simp [results, Tryd.results80, go_sem, *]) rfl ⟨rfl, ?_⟩; exact (by repeat' (first | (with_reducible exact Below.refl _ _) | (with_reducible refine bl_set ?_ _ ?_) | (with_reducible refine bl_alloc ?_ _) | (with_reducible refine bl_drew ?_) | (with_reducible refine bl_via (by with_reducible assumption) ?_) | (with_reducible assumption) | omega | (simp only []; omega) | (simp; omega)))
  · rw [show min (-n) 56 = -n from by omega]
    obtain ⟨r0, r1'⟩ := rnd_size (val x y) (pw (-n)) 268435455 (pw_pos _) (by omega) k0 k1
    go_enter Tryd.func80, Tryd.ntmps80
    go_wp2_with fail
    refine (value_any x y hx0 hx1 hy0 hy1 _).mono ?_
    rintro _ r1 ⟨rfl, hbr1⟩
    obtain ⟨hcr1, hfr1⟩ := bcell hbr1
    have hzr1 := hbr1.size
    try simp only [World.size_alloc, World.size_setCell, World.size_drew] at hzr1
    have hlr1w0 : w.heap.size < r1.heap.size := by omega
    have hlr1w1 : w.heap.size + 1 < r1.heap.size := by omega
    go_wp2_with fail
    refine (half_any (val x y) (-n) (by omega) (by omega) (by omega) (by omega) _).mono ?_
    rintro _ _ ⟨rfl, rfl⟩
    go_wp2_with fail
    refine (double_any (rnd (val x y) (pw (-n))) r0 r1' _).mono ?_
    rintro _ r2 ⟨rfl, hbr2⟩
    obtain ⟨hcr2, hfr2⟩ := bcell hbr2
    have hzr2 := hbr2.size
    try simp only [World.size_alloc, World.size_setCell, World.size_drew] at hzr2
    have hlr2w0 : w.heap.size < r2.heap.size := by omega
    have hlr2w1 : w.heap.size + 1 < r2.heap.size := by omega
    go_wp2
    refine bodyPost_ret (v := .tuple #[(.agg #[.int .u16 (hi (rnd (val x y) (pw (-n)))), .int .u16 (lo (rnd (val x y) (pw (-n))))]), .bool false]) (by simp [results, Tryd.results80, go_sem, *]) rfl ⟨rfl, ?_⟩; exact (by repeat' (first | (with_reducible exact Below.refl _ _) | (with_reducible refine bl_set ?_ _ ?_) | (with_reducible refine bl_alloc ?_ _) | (with_reducible refine bl_drew ?_) | (with_reducible refine bl_via (by with_reducible assumption) ?_) | (with_reducible assumption) | omega | (simp only []; omega) | (simp; omega)))

set_option maxHeartbeats 400000 in
theorem shift_small (x y n : Int) (hx0 : 0 ≤ x) (hx1 : x < 65536) (hy0 : 0 ≤ y) (hy1 : y < 65536) (h : 0 ≤ n) (h2 : n ≤ 28) (w : World) :
    Calls Tryd.prog 80 #[(.agg #[.int .u16 (x), .int .u16 (y)]), .int .i64 n] w fun e w' => e = .returned (.tuple #[(.agg #[.int .u16 (hi (sat (val x y * pw n) 268435455)), .int .u16 (lo (sat (val x y * pw n) 268435455))]), .bool (outb (val x y * pw n) 268435455)]) ∧ Below w.heap.size w w' := by
  have k0 := val_lo x y
  have k1 := val_hi x y
  have k2 := pw_le28 n h2
  have k3 := pw_pos n
  have e1 : wrap64 (2 ^ n.toNat) = pw n := wrap64_in _ (by show _ ≤ pw n; omega) (by show pw n ≤ _; omega)
  have e2 : wrap64 (val x y * pw n) = val x y * pw n := by
    have := mul_size (val x y) (pw n) 268435455 268435456 (by omega) (by omega) k0 k1 (by omega) k2
    exact wrap64_in _ (by omega) (by omega)
  go_enter Tryd.func80, Tryd.ntmps80
  go_wp2_with fail
  refine (value_any x y hx0 hx1 hy0 hy1 _).mono ?_
  rintro _ r1 ⟨rfl, hbr1⟩
  obtain ⟨hcr1, hfr1⟩ := bcell hbr1
  have hzr1 := hbr1.size
  try simp only [World.size_alloc, World.size_setCell, World.size_drew] at hzr1
  have hlr1w0 : w.heap.size < r1.heap.size := by omega
  have hlr1w1 : w.heap.size + 1 < r1.heap.size := by omega
  go_wp2_with fail
  refine (clamp_any _ _).mono ?_
  rintro _ r2 ⟨rfl, hbr2⟩
  obtain ⟨hcr2, hfr2⟩ := bcell hbr2
  have hzr2 := hbr2.size
  try simp only [World.size_alloc, World.size_setCell, World.size_drew] at hzr2
  have hlr2w0 : w.heap.size < r2.heap.size := by omega
  have hlr2w1 : w.heap.size + 1 < r2.heap.size := by omega
  go_wp2
  refine bodyPost_ret (v := .tuple #[(.agg #[.int .u16 (hi (sat (val x y * pw n) 268435455)), .int .u16 (lo (sat (val x y * pw n) 268435455))]), .bool (outb (val x y * pw n) 268435455)]) (by simp [results, Tryd.results80, go_sem, *]) rfl ⟨rfl, ?_⟩; exact (by repeat' (first | (with_reducible exact Below.refl _ _) | (with_reducible refine bl_set ?_ _ ?_) | (with_reducible refine bl_alloc ?_ _) | (with_reducible refine bl_drew ?_) | (with_reducible refine bl_via (by with_reducible assumption) ?_) | (with_reducible assumption) | omega | (simp only []; omega) | (simp; omega)))

set_option maxHeartbeats 400000 in
theorem shift_zero (x y n : Int) (hx0 : 0 ≤ x) (hx1 : x < 65536) (hy0 : 0 ≤ y) (hy1 : y < 65536) (h : 28 < n) (h2 : n ≤ 9223372036854775807) (hz : val x y = 0) (w : World) :
    Calls Tryd.prog 80 #[(.agg #[.int .u16 (x), .int .u16 (y)]), .int .i64 n] w fun e w' => e = .returned (.tuple #[(.agg #[.int .u16 (hi (0)), .int .u16 (lo (0))]), .bool false]) ∧ Below w.heap.size w w' := by
  have ho : outb 0 268435455 = false := outb_in _ _ (by omega) (by omega)
  have hs : sat 0 268435455 = 0 := sat_in _ _ (by omega) (by omega)
  go_enter Tryd.func80, Tryd.ntmps80
  go_wp2_with fail
  refine (value_any x y hx0 hx1 hy0 hy1 _).mono ?_
  rintro _ r1 ⟨rfl, hbr1⟩
  obtain ⟨hcr1, hfr1⟩ := bcell hbr1
  have hzr1 := hbr1.size
  try simp only [World.size_alloc, World.size_setCell, World.size_drew] at hzr1
  have hlr1w0 : w.heap.size < r1.heap.size := by omega
  have hlr1w1 : w.heap.size + 1 < r1.heap.size := by omega
  go_wp2_with fail
  refine (clamp_any _ _).mono ?_
  rintro _ r2 ⟨rfl, hbr2⟩
  obtain ⟨hcr2, hfr2⟩ := bcell hbr2
  have hzr2 := hbr2.size
  try simp only [World.size_alloc, World.size_setCell, World.size_drew] at hzr2
  have hlr2w0 : w.heap.size < r2.heap.size := by omega
  have hlr2w1 : w.heap.size + 1 < r2.heap.size := by omega
  go_wp2
  refine bodyPost_ret (v := .tuple #[(.agg #[.int .u16 (hi (0)), .int .u16 (lo (0))]), .bool false]) (by simp [results, Tryd.results80, go_sem, *]) rfl ⟨rfl, ?_⟩; exact (by repeat' (first | (with_reducible exact Below.refl _ _) | (with_reducible refine bl_set ?_ _ ?_) | (with_reducible refine bl_alloc ?_ _) | (with_reducible refine bl_drew ?_) | (with_reducible refine bl_via (by with_reducible assumption) ?_) | (with_reducible assumption) | omega | (simp only []; omega) | (simp; omega)))

set_option maxHeartbeats 400000 in
theorem shift_big (x y n : Int) (hx0 : 0 ≤ x) (hx1 : x < 65536) (hy0 : 0 ≤ y) (hy1 : y < 65536) (h : 28 < n) (h2 : n ≤ 9223372036854775807) (hz : ¬ val x y = 0) (w : World) :
    Calls Tryd.prog 80 #[(.agg #[.int .u16 (x), .int .u16 (y)]), .int .i64 n] w fun e w' => e = .returned (.tuple #[(.agg #[.int .u16 (hi (sat (val x y * 536870912) 268435455)), .int .u16 (lo (sat (val x y * 536870912) 268435455))]), .bool (outb (val x y * 536870912) 268435455)]) ∧ Below w.heap.size w w' := by
  have k0 := val_lo x y
  have k1 := val_hi x y
  have e2 : val x y * 2 * 268435456 = val x y * 536870912 := by omega
  go_enter Tryd.func80, Tryd.ntmps80
  go_wp2_with fail
  refine (value_any x y hx0 hx1 hy0 hy1 _).mono ?_
  rintro _ r1 ⟨rfl, hbr1⟩
  obtain ⟨hcr1, hfr1⟩ := bcell hbr1
  have hzr1 := hbr1.size
  try simp only [World.size_alloc, World.size_setCell, World.size_drew] at hzr1
  have hlr1w0 : w.heap.size < r1.heap.size := by omega
  have hlr1w1 : w.heap.size + 1 < r1.heap.size := by omega
  go_wp2_with fail
  refine (clamp_any _ _).mono ?_
  rintro _ r2 ⟨rfl, hbr2⟩
  obtain ⟨hcr2, hfr2⟩ := bcell hbr2
  have hzr2 := hbr2.size
  try simp only [World.size_alloc, World.size_setCell, World.size_drew] at hzr2
  have hlr2w0 : w.heap.size < r2.heap.size := by omega
  have hlr2w1 : w.heap.size + 1 < r2.heap.size := by omega
  go_wp2
  refine bodyPost_ret (v := .tuple #[(.agg #[.int .u16 (hi (sat (val x y * 536870912) 268435455)), .int .u16 (lo (sat (val x y * 536870912) 268435455))]), .bool (outb (val x y * 536870912) 268435455)]) (by simp [results, Tryd.results80, go_sem, *]) rfl ⟨rfl, ?_⟩; exact (by repeat' (first | (with_reducible exact Below.refl _ _) | (with_reducible refine bl_set ?_ _ ?_) | (with_reducible refine bl_alloc ?_ _) | (with_reducible refine bl_drew ?_) | (with_reducible refine bl_via (by with_reducible assumption) ?_) | (with_reducible assumption) | omega | (simp only []; omega) | (simp; omega)))

theorem shift_any (x y n : Int) (hx0 : 0 ≤ x) (hx1 : x < 65536) (hy0 : 0 ≤ y) (hy1 : y < 65536) (h : -9223372036854775808 ≤ n) (h2 : n ≤ 9223372036854775807) (w : World) :
    Calls Tryd.prog 80 #[(.agg #[.int .u16 (x), .int .u16 (y)]), .int .i64 n] w fun e w' => e = .returned (.tuple #[(.agg #[.int .u16 (hi (shv (val x y) n)), .int .u16 (lo (shv (val x y) n))]), .bool (sho (val x y) n)]) ∧ Below w.heap.size w w' := by
  by_cases hn : n < 0
  · rw [shv_neg _ _ hn, sho_neg _ _ hn]; exact shift_neg x y n hx0 hx1 hy0 hy1 hn h w
  · rw [shv_nn _ _ (by omega), sho_nn _ _ (by omega)]; unfold shl
    by_cases h28 : n ≤ 28
    · rw [show min n 29 = n from by omega]; exact shift_small x y n hx0 hx1 hy0 hy1 (by omega) h28 w
    · rw [show min n 29 = 29 from by omega, show pw 29 = 536870912 from rfl]
      by_cases hz : val x y = 0
      · have ho : outb 0 268435455 = false := outb_in _ _ (by omega) (by omega)
        have hs : sat 0 268435455 = 0 := sat_in _ _ (by omega) (by omega)
        rw [show val x y * 536870912 = 0 from by omega, ho, hs]
        exact shift_zero x y n hx0 hx1 hy0 hy1 (by omega) h2 hz w
      · exact shift_big x y n hx0 hx1 hy0 hy1 (by omega) h2 hz w

end Go.Proofs.YtbbhppjamighdaaDoor
