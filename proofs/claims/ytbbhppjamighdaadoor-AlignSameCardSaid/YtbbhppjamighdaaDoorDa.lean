/- The contracts of package double's functions over this translation. -/
import Derived.Test.YtbbhppjamighdaaDoorProg
import Derived.Test.YtbbhppjamighdaaDoorPb
import Derived.Test.YtbbhppjamighdaaDoorKa
namespace Go.Proofs.YtbbhppjamighdaaDoor
set_option linter.unusedSimpArgs false
set_option linter.unusedVariables false
open Go.RowKit

set_option maxHeartbeats 400000 in
theorem word_any (x : Int) (h0 : 0 ≤ x) (h1 : x < 65536) (w : World) :
    Calls Tryd.prog 67 #[.int .u16 x] w fun e w' => e = .returned (.int .i64 (wv x)) ∧ w = w' := by
  have hb := u16_and32767 x h0 h1
  go_enter Tryd.func67, Tryd.ntmps67
  go_wp2
  all_goals (go_ret; refine ⟨ret_int ?_, rfl⟩; unfold wv; first | rw [if_pos (by omega)] | rw [if_neg (by omega)])

set_option maxHeartbeats 400000 in
theorem value_any (x y : Int) (h0 : 0 ≤ x) (h1 : x < 65536) (g0 : 0 ≤ y) (g1 : y < 65536) (w : World) :
    Calls Tryd.prog 37 #[.agg #[.int .u16 x, .int .u16 y]] w fun e w' => e = .returned (.int .i64 (val x y)) ∧ Below w.heap.size w w' := by
  have := wv_lo x
  have := wv_hi x
  have := wv_lo y
  have := wv_hi y
  have hec := @Ext.cell
  go_enter Tryd.func37, Tryd.ntmps37
  go_wp2_with fail
  have hecr1 := @Ext.cell
  refine wp_region_ext (by kernel_rfl) (by kernel_rfl) ?_
  repeat (first | go_big_quiet_skip | (go_big_quiet_want; go_big_quiet_op; first | go_big_quiet_on | (go_big_quiet_call ((first | fail | (go_at_call 67; exact ext_call_same (word_any _ (by omega) (by omega) _)))))))
  clear hecr1
  refine wpQuiet_nil ?_
  rintro r1 ⟨⟨_, hbr1⟩, rfl⟩
  obtain ⟨hcr1, hfr1⟩ := bcell hbr1
  have hzr1 := hbr1.size
  try simp only [World.size_alloc, World.size_setCell, World.size_drew] at hzr1
  go_wp2
  go_ret
  exact ⟨rfl, (by repeat' (first | (with_reducible exact Below.refl _ _) | (with_reducible refine bl_set ?_ _ ?_) | (with_reducible refine bl_alloc ?_ _) | (with_reducible refine bl_drew ?_) | (with_reducible refine bl_via (by with_reducible assumption) ?_) | (with_reducible assumption) | omega | (simp only []; omega) | (simp; omega)))⟩

set_option maxHeartbeats 400000 in
theorem digit_neg (b c : Nat) (m : Int) (h0 : 0 ≤ m) (h1 : m ≤ 4398046511103) (w : World) (hm : w.cell? ⟨b, 0, none⟩ = some (.int .u64 m)) (hn : w.cell? ⟨c, 0, none⟩ = some (.bool true)) (hf : w.frozen? ⟨b, 0, none⟩ = false) (hbc : b ≠ c) :
    Calls Tryd.prog 91 #[.pointer (some ⟨b, 0, none⟩), .pointer (some ⟨c, 0, none⟩)] w fun e w' => e = .returned (.int .u16 (32767 - m % 16384)) ∧ w' = w.setCell ⟨b, 0, none⟩ (.int .u64 (m / 16384)) := by
  have hb := u64_and16383 m h0 (by omega)
  go_enter Tryd.func91, Tryd.ntmps91
  go_wp2
  go_ret
  exact ⟨rfl, rfl⟩

set_option maxHeartbeats 400000 in
theorem digit_pos (b c : Nat) (m : Int) (h0 : 0 ≤ m) (h1 : m ≤ 4398046511103) (w : World) (hm : w.cell? ⟨b, 0, none⟩ = some (.int .u64 m)) (hn : w.cell? ⟨c, 0, none⟩ = some (.bool false)) (hf : w.frozen? ⟨b, 0, none⟩ = false) (hbc : b ≠ c) :
    Calls Tryd.prog 91 #[.pointer (some ⟨b, 0, none⟩), .pointer (some ⟨c, 0, none⟩)] w fun e w' => e = .returned (.int .u16 (m % 16384)) ∧ w' = w.setCell ⟨b, 0, none⟩ (.int .u64 (m / 16384)) := by
  have hb := u64_and16383 m h0 (by omega)
  go_enter Tryd.func91, Tryd.ntmps91
  go_wp2
  go_ret
  exact ⟨rfl, rfl⟩

set_option maxHeartbeats 400000 in
theorem digits_neg (v : Int) (h0 : -4398046511103 ≤ v) (h1 : v < 0) (w : World) :
    Calls Tryd.prog 84 #[.int .i64 v] w fun e w' => e = .returned (.func (.func 91) #[] #[.pointer (some ⟨w.heap.size + 1, 0, none⟩), .pointer (some ⟨w.heap.size, 0, none⟩)]) ∧
      w' = (w.alloc (.cells #[.bool true] 4)).alloc (.cells #[.int .u64 (-v)] 83) := by
  have e1 : IntKind.u64.wrap v = v + 18446744073709551616 := by rw [IntKind.wrap_u64]; omega
  have e2 : IntKind.u64.wrap (-(v + 18446744073709551616)) = -v := by rw [IntKind.wrap_u64]; omega
  go_enter Tryd.func84, Tryd.ntmps84
  go_wp2
  go_ret
  exact ⟨rfl, rfl⟩

set_option maxHeartbeats 400000 in
theorem digits_pos (v : Int) (h0 : 0 ≤ v) (h1 : v ≤ 4398046511103) (w : World) :
    Calls Tryd.prog 84 #[.int .i64 v] w fun e w' => e = .returned (.func (.func 91) #[] #[.pointer (some ⟨w.heap.size + 1, 0, none⟩), .pointer (some ⟨w.heap.size, 0, none⟩)]) ∧
      w' = (w.alloc (.cells #[.bool false] 4)).alloc (.cells #[.int .u64 v] 83) := by
  have e1 : IntKind.u64.wrap v = v := by rw [IntKind.wrap_u64]; omega
  have hd : decide (v < 0) = false := decide_eq_false (by omega)
  go_enter Tryd.func84, Tryd.ntmps84
  go_wp2
  go_ret
  exact ⟨rfl, rfl⟩

set_option maxHeartbeats 400000 in
theorem double_neg (v : Int) (h0 : -268435455 ≤ v) (h1 : v < 0) (w : World) :
    Calls Tryd.prog 66 #[.int .i64 v] w fun e w' => e = .returned (.agg #[.int .u16 (hi v), .int .u16 (lo v)]) ∧ Below w.heap.size w w' := by
  have e1 : -v / 16384 % 16384 = -v / 16384 := by omega
  have e2 : lo v = 32767 - -v % 16384 := by unfold lo; rw [if_pos h1]
  have e3 : hi v = 32767 - -v / 16384 := by unfold hi; rw [if_pos h1]
  go_enter Tryd.func66, Tryd.ntmps66
  go_wp2_with fail
  refine (digits_neg v (by omega) h1 _).mono ?_
  rintro _ _ ⟨rfl, rfl⟩
  go_wp2_with fail
  refine (digit_neg _ _ (-v) (by omega) (by omega) _ (by go_simp) (by go_simp) (by go_simp) (by omega)).mono ?_
  rintro _ _ ⟨rfl, rfl⟩
  go_wp2_with fail
  refine (digit_neg _ _ (-v / 16384) (by omega) (by omega) _ (by go_simp) (by go_simp) (by go_simp) (by omega)).mono ?_
  rintro _ _ ⟨rfl, rfl⟩
  go_wp2_with fail
  refine bodyPost_ret (v := .agg #[.int .u16 (hi v), .int .u16 (lo v)]) (by simp [results, Tryd.results66, go_sem, e2, e3]) rfl ⟨rfl, ?_⟩
  exact (by repeat' (first | (with_reducible exact Below.refl _ _) | (with_reducible refine bl_set ?_ _ ?_) | (with_reducible refine bl_alloc ?_ _) | (with_reducible refine bl_drew ?_) | (with_reducible refine bl_via (by with_reducible assumption) ?_) | (with_reducible assumption) | omega | (simp only []; omega) | (simp; omega)))

set_option maxHeartbeats 400000 in
theorem double_pos (v : Int) (h0 : 0 ≤ v) (h1 : v ≤ 268435455) (w : World) :
    Calls Tryd.prog 66 #[.int .i64 v] w fun e w' => e = .returned (.agg #[.int .u16 (hi v), .int .u16 (lo v)]) ∧ Below w.heap.size w w' := by
  have e1 : v / 16384 % 16384 = v / 16384 := by omega
  have e2 : lo v = v % 16384 := by unfold lo; rw [if_neg (by omega)]
  have e3 : hi v = v / 16384 := by unfold hi; rw [if_neg (by omega)]
  go_enter Tryd.func66, Tryd.ntmps66
  go_wp2_with fail
  refine (digits_pos v (by omega) (by omega) _).mono ?_
  rintro _ _ ⟨rfl, rfl⟩
  go_wp2_with fail
  refine (digit_pos _ _ v (by omega) (by omega) _ (by go_simp) (by go_simp) (by go_simp) (by omega)).mono ?_
  rintro _ _ ⟨rfl, rfl⟩
  go_wp2_with fail
  refine (digit_pos _ _ (v / 16384) (by omega) (by omega) _ (by go_simp) (by go_simp) (by go_simp) (by omega)).mono ?_
  rintro _ _ ⟨rfl, rfl⟩
  go_wp2_with fail
  refine bodyPost_ret (v := .agg #[.int .u16 (hi v), .int .u16 (lo v)]) (by simp [results, Tryd.results66, go_sem, e2, e3]) rfl ⟨rfl, ?_⟩
  exact (by repeat' (first | (with_reducible exact Below.refl _ _) | (with_reducible refine bl_set ?_ _ ?_) | (with_reducible refine bl_alloc ?_ _) | (with_reducible refine bl_drew ?_) | (with_reducible refine bl_via (by with_reducible assumption) ?_) | (with_reducible assumption) | omega | (simp only []; omega) | (simp; omega)))

theorem double_any (v : Int) (h0 : -268435455 ≤ v) (h1 : v ≤ 268435455) (w : World) :
    Calls Tryd.prog 66 #[.int .i64 v] w fun e w' => e = .returned (.agg #[.int .u16 (hi v), .int .u16 (lo v)]) ∧ Below w.heap.size w w' := by
  by_cases h : v < 0
  · exact double_neg v h0 h w
  · exact double_pos v (by omega) h1 w

set_option maxHeartbeats 400000 in
theorem bounded_any (v m : Int) (h0 : 0 ≤ m) (h1 : m ≤ 4398046511103) (w : World) :
    Calls Tryd.prog 83 #[.int .i64 v, .int .i64 m] w fun e w' => e = .returned (.tuple #[.int .i64 (sat v m), .bool (outb v m)]) ∧ w = w' := by
  have e1 : m < v → sat v m = m ∧ outb v m = true := fun h => ⟨by unfold sat; rw [if_pos h], by unfold outb; exact decide_eq_true (by omega)⟩
  have e2 : v < -m → sat v m = -m ∧ outb v m = true := fun h => ⟨by unfold sat; rw [if_neg (by omega), if_pos h], by unfold outb; exact decide_eq_true (by omega)⟩
  have e3 : ¬ m < v → ¬ v < -m → sat v m = v ∧ outb v m = false := fun h g => ⟨sat_in v m (by omega) (by omega), outb_in v m (by omega) (by omega)⟩
  by_cases c1 : m < v
  · rw [(e1 c1).1, (e1 c1).2]; clear e1 e2 e3
    go_enter Tryd.func83, Tryd.ntmps83
    go_wp2
    go_ret2
    exact ⟨rfl, rfl⟩
  · by_cases c2 : v < -m
    · rw [(e2 c2).1, (e2 c2).2]; clear e1 e2 e3
      go_enter Tryd.func83, Tryd.ntmps83
      go_wp2
      go_ret2
      exact ⟨rfl, rfl⟩
    · rw [(e3 c1 c2).1, (e3 c1 c2).2]; clear e1 e2 e3
      go_enter Tryd.func83, Tryd.ntmps83
      go_wp2
      go_ret2
      exact ⟨rfl, rfl⟩

set_option maxHeartbeats 400000 in
theorem half_pos (v n : Int) (h0 : 0 ≤ v) (h1 : v ≤ 4398046511103) (g0 : 1 ≤ n) (g1 : n ≤ 56) (w : World) :
    Calls Tryd.prog 90 #[.int .i64 v, .int .i64 n] w fun e w' => e = .returned (.int .i64 (rnd v (pw n))) ∧ w = w' := by
  have k := pw_le56 (n - 1) (by omega)
  have k1 := pw_pos (n - 1)
  have e1 : wrap64 (2 ^ (n.toNat - 1)) = pw (n - 1) := by
    rw [show (2 : Int) ^ (n.toNat - 1) = pw (n - 1) from by unfold pw; rw [show (n - 1).toNat = n.toNat - 1 from by omega]]
    exact wrap64_in _ (by omega) (by omega)
  have e2 : wrap64 (v + pw (n - 1)) = v + pw (n - 1) := wrap64_in _ (by omega) (by omega)
  have e3 : (v + pw (n - 1)) / 2 ^ n.toNat = rnd v (pw n) := by
    have := pw_succ (n - 1) (by omega)
    rw [Int.sub_add_cancel] at this
    rw [show (2 : Int) ^ n.toNat = pw n from rfl, this]
    exact half_eq v _ (by omega) h0
  go_enter Tryd.func90, Tryd.ntmps90
  go_wp2
  go_ret
  exact ⟨rfl, rfl⟩

set_option maxHeartbeats 400000 in
theorem half_neg (v n : Int) (h0 : -4398046511103 ≤ v) (h1 : v < 0) (g0 : 1 ≤ n) (g1 : n ≤ 56) (w : World) :
    Calls Tryd.prog 90 #[.int .i64 v, .int .i64 n] w fun e w' => e = .returned (.int .i64 (rnd v (pw n))) ∧ w = w' := by
  have e1 : rnd v (pw n) = -rnd (-v) (pw n) := by have := rnd_neg v (pw n) (by have := pw_pos n; omega); omega
  have b := rnd_size (-v) (pw n) 4398046511103 (pw_pos n) (by omega) (by omega) (by omega)
  obtain ⟨b0, b1⟩ := b
  rw [e1]; clear e1
  go_enter Tryd.func90, Tryd.ntmps90
  go_wp2_with fail
  refine (half_pos (-v) n (by omega) (by omega) g0 g1 _).mono ?_
  rintro _ _ ⟨rfl, rfl⟩
  go_wp2
  go_ret
  exact ⟨rfl, rfl⟩

theorem half_any (v n : Int) (h0 : -4398046511103 ≤ v) (h1 : v ≤ 4398046511103) (g0 : 1 ≤ n) (g1 : n ≤ 56) (w : World) :
    Calls Tryd.prog 90 #[.int .i64 v, .int .i64 n] w fun e w' => e = .returned (.int .i64 (rnd v (pw n))) ∧ w = w' := by
  by_cases h : v < 0
  · exact half_neg v n h0 h g0 g1 w
  · exact half_pos v n (by omega) h1 g0 g1 w

set_option maxHeartbeats 400000 in
theorem clamp_any (v : Int) (w : World) :
    Calls Tryd.prog 61 #[.int .i64 v] w fun e w' => e = .returned (.tuple #[(.agg #[.int .u16 (hi (sat v 268435455)), .int .u16 (lo (sat v 268435455))]), .bool (outb v 268435455)]) ∧ Below w.heap.size w w' := by
  have k0 := sat_lo v 268435455 (by omega)
  have k1 := sat_hi v 268435455 (by omega)
  go_enter Tryd.func61, Tryd.ntmps61
  go_wp2_with fail
  refine (bounded_any v 268435455 (by omega) (by omega) _).mono ?_
  rintro _ _ ⟨rfl, rfl⟩
  go_wp2_with fail
  refine (double_any (sat v 268435455) k0 k1 _).mono ?_
  rintro _ r1 ⟨rfl, hbr1⟩
  obtain ⟨hcr1, hfr1⟩ := bcell hbr1
  have hzr1 := hbr1.size
  try simp only [World.size_alloc, World.size_setCell, World.size_drew] at hzr1
  have hlr1w0 : w.heap.size < r1.heap.size := by omega
  go_wp2
  refine bodyPost_ret (v := .tuple #[(.agg #[.int .u16 (hi (sat v 268435455)), .int .u16 (lo (sat v 268435455))]), .bool (outb v 268435455)]) (by simp [results, Tryd.results61, go_sem, *]) rfl ⟨rfl, ?_⟩; exact (by repeat' (first | (with_reducible exact Below.refl _ _) | (with_reducible refine bl_set ?_ _ ?_) | (with_reducible refine bl_alloc ?_ _) | (with_reducible refine bl_drew ?_) | (with_reducible refine bl_via (by with_reducible assumption) ?_) | (with_reducible assumption) | omega | (simp only []; omega) | (simp; omega)))

set_option maxHeartbeats 400000 in
theorem canon_any (x y : Int) (hx0 : 0 ≤ x) (hx1 : x < 65536) (hy0 : 0 ≤ y) (hy1 : y < 65536) (w : World) :
    Calls Tryd.prog 38 #[(.agg #[.int .u16 (x), .int .u16 (y)])] w fun e w' => e = .returned (.agg #[.int .u16 (hi (val x y)), .int .u16 (lo (val x y))]) ∧ Below w.heap.size w w' := by
  go_enter Tryd.func38, Tryd.ntmps38
  go_wp2_with fail
  refine (value_any x y hx0 hx1 hy0 hy1 _).mono ?_
  rintro _ r1 ⟨rfl, hbr1⟩
  obtain ⟨hcr1, hfr1⟩ := bcell hbr1
  have hzr1 := hbr1.size
  try simp only [World.size_alloc, World.size_setCell, World.size_drew] at hzr1
  have hlr1w0 : w.heap.size < r1.heap.size := by omega
  have hlr1w1 : w.heap.size + 1 < r1.heap.size := by omega
  go_wp2_with fail
  refine (double_any (val x y) (val_lo x y) (val_hi x y) _).mono ?_
  rintro _ r2 ⟨rfl, hbr2⟩
  obtain ⟨hcr2, hfr2⟩ := bcell hbr2
  have hzr2 := hbr2.size
  try simp only [World.size_alloc, World.size_setCell, World.size_drew] at hzr2
  have hlr2w0 : w.heap.size < r2.heap.size := by omega
  have hlr2w1 : w.heap.size + 1 < r2.heap.size := by omega
  go_wp2
  refine bodyPost_ret (v := (.agg #[.int .u16 (hi (val x y)), .int .u16 (lo (val x y))])) (by simp [results, Tryd.results38, go_sem, *]) rfl ⟨rfl, ?_⟩; exact (by repeat' (first | (with_reducible exact Below.refl _ _) | (with_reducible refine bl_set ?_ _ ?_) | (with_reducible refine bl_alloc ?_ _) | (with_reducible refine bl_drew ?_) | (with_reducible refine bl_via (by with_reducible assumption) ?_) | (with_reducible assumption) | omega | (simp only []; omega) | (simp; omega)))

set_option maxHeartbeats 400000 in
theorem sub_any (x y z u : Int) (hx0 : 0 ≤ x) (hx1 : x < 65536) (hy0 : 0 ≤ y) (hy1 : y < 65536) (hz0 : 0 ≤ z) (hz1 : z < 65536) (hu0 : 0 ≤ u) (hu1 : u < 65536) (w : World) :
    Calls Tryd.prog 31 #[(.agg #[.int .u16 (x), .int .u16 (y)]), (.agg #[.int .u16 (z), .int .u16 (u)])] w fun e w' => e = .returned (.tuple #[(.agg #[.int .u16 (hi (sat (val x y - val z u) 268435455)), .int .u16 (lo (sat (val x y - val z u) 268435455))]), .bool (outb (val x y - val z u) 268435455)]) ∧ Below w.heap.size w w' := by
  have := val_lo x y
  have := val_hi x y
  have := val_lo z u
  have := val_hi z u
  go_enter Tryd.func31, Tryd.ntmps31
  go_wp2_with fail
  have hecr1 := @Ext.cell
  refine wp_region_ext_tail 8 (by kernel_rfl) (by kernel_rfl) ?_
  simp only [List.take_succ_cons, List.take_zero, List.drop_succ_cons, List.drop_zero]
  repeat (first | go_big_quiet_skip | (go_big_quiet_want; go_big_quiet_op; first | go_big_quiet_on | (go_big_quiet_call ((first | fail | (go_at_call 37; exact ext_call (value_any _ _ (by assumption) (by assumption) (by assumption) (by assumption) _)) | (go_at_call 61; exact ext_call (clamp_any _ _)))))))
  clear hecr1
  refine wpQuiet_nil ?_
  rintro r1 ⟨⟨_, hbr1⟩, rfl⟩
  obtain ⟨hcr1, hfr1⟩ := bcell hbr1
  have hzr1 := hbr1.size
  try simp only [World.size_alloc, World.size_setCell, World.size_drew] at hzr1
  have hlr1w0 : w.heap.size < r1.heap.size := by omega
  have hlr1w1 : w.heap.size + 1 < r1.heap.size := by omega
  have hlr1w2 : w.heap.size + 1 + 1 < r1.heap.size := by omega
  go_wp2
  refine bodyPost_ret (v := (.tuple #[(.agg #[.int .u16 (hi (sat (val x y - val z u) 268435455)), .int .u16 (lo (sat (val x y - val z u) 268435455))]), .bool (outb (val x y - val z u) 268435455)])) (by simp [results, Tryd.results31, go_sem, *]) rfl ⟨rfl, ?_⟩; exact (by repeat' (first | (with_reducible exact Below.refl _ _) | (with_reducible refine bl_set ?_ _ ?_) | (with_reducible refine bl_alloc ?_ _) | (with_reducible refine bl_drew ?_) | (with_reducible refine bl_via (by with_reducible assumption) ?_) | (with_reducible assumption) | omega | (simp only []; omega) | (simp; omega)))

set_option maxHeartbeats 400000 in
theorem neg_any (x y : Int) (hx0 : 0 ≤ x) (hx1 : x < 65536) (hy0 : 0 ≤ y) (hy1 : y < 65536) (w : World) :
    Calls Tryd.prog 46 #[(.agg #[.int .u16 (x), .int .u16 (y)])] w fun e w' => e = .returned (.agg #[.int .u16 (hi (-val x y)), .int .u16 (lo (-val x y))]) ∧ Below w.heap.size w w' := by
  have k0 := val_lo x y
  have k1 := val_hi x y
  go_enter Tryd.func46, Tryd.ntmps46
  go_wp2_with fail
  refine (value_any x y hx0 hx1 hy0 hy1 _).mono ?_
  rintro _ r1 ⟨rfl, hbr1⟩
  obtain ⟨hcr1, hfr1⟩ := bcell hbr1
  have hzr1 := hbr1.size
  try simp only [World.size_alloc, World.size_setCell, World.size_drew] at hzr1
  have hlr1w0 : w.heap.size < r1.heap.size := by omega
  have hlr1w1 : w.heap.size + 1 < r1.heap.size := by omega
  go_wp2_with fail
  refine (double_any (-val x y) (by omega) (by omega) _).mono ?_
  rintro _ r2 ⟨rfl, hbr2⟩
  obtain ⟨hcr2, hfr2⟩ := bcell hbr2
  have hzr2 := hbr2.size
  try simp only [World.size_alloc, World.size_setCell, World.size_drew] at hzr2
  have hlr2w0 : w.heap.size < r2.heap.size := by omega
  have hlr2w1 : w.heap.size + 1 < r2.heap.size := by omega
  go_wp2
  refine bodyPost_ret (v := (.agg #[.int .u16 (hi (-val x y)), .int .u16 (lo (-val x y))])) (by simp [results, Tryd.results46, go_sem, *]) rfl ⟨rfl, ?_⟩; exact (by repeat' (first | (with_reducible exact Below.refl _ _) | (with_reducible refine bl_set ?_ _ ?_) | (with_reducible refine bl_alloc ?_ _) | (with_reducible refine bl_drew ?_) | (with_reducible refine bl_via (by with_reducible assumption) ?_) | (with_reducible assumption) | omega | (simp only []; omega) | (simp; omega)))

/-- The magnitude. -/
def mag (v : Int) : Int := if v < 0 then -v else v

set_option maxHeartbeats 400000 in
theorem abs_any (x y : Int) (hx0 : 0 ≤ x) (hx1 : x < 65536) (hy0 : 0 ≤ y) (hy1 : y < 65536) (w : World) :
    Calls Tryd.prog 36 #[(.agg #[.int .u16 (x), .int .u16 (y)])] w fun e w' => e = .returned (.agg #[.int .u16 (hi (mag (val x y))), .int .u16 (lo (mag (val x y)))]) ∧ Below w.heap.size w w' := by
  have k0 := val_lo x y
  have k1 := val_hi x y
  by_cases h : val x y < 0
  · have e1 : mag (val x y) = -val x y := by unfold mag; rw [if_pos h]
    rw [e1]; clear e1
    go_enter Tryd.func36, Tryd.ntmps36
    go_wp2_with fail
    refine (value_any x y hx0 hx1 hy0 hy1 _).mono ?_
    rintro _ r1 ⟨rfl, hbr1⟩
    obtain ⟨hcr1, hfr1⟩ := bcell hbr1
    have hzr1 := hbr1.size
    try simp only [World.size_alloc, World.size_setCell, World.size_drew] at hzr1
    have hlr1w0 : w.heap.size < r1.heap.size := by omega
    have hlr1w1 : w.heap.size + 1 < r1.heap.size := by omega
    go_wp2_with fail
    refine (double_any (-val x y) (by omega) (by omega) _).mono ?_
    rintro _ r2 ⟨rfl, hbr2⟩
    obtain ⟨hcr2, hfr2⟩ := bcell hbr2
    have hzr2 := hbr2.size
    try simp only [World.size_alloc, World.size_setCell, World.size_drew] at hzr2
    have hlr2w0 : w.heap.size < r2.heap.size := by omega
    have hlr2w1 : w.heap.size + 1 < r2.heap.size := by omega
    go_wp2
    refine bodyPost_ret (v := (.agg #[.int .u16 (hi (-val x y)), .int .u16 (lo (-val x y))])) (by simp [results, Tryd.results36, go_sem, *]) rfl ⟨rfl, ?_⟩; exact (by repeat' (first | (with_reducible exact Below.refl _ _) | (with_reducible refine bl_set ?_ _ ?_) | (with_reducible refine bl_alloc ?_ _) | (with_reducible refine bl_drew ?_) | (with_reducible refine bl_via (by with_reducible assumption) ?_) | (with_reducible assumption) | omega | (simp only []; omega) | (simp; omega)))
  · have e1 : mag (val x y) = val x y := by unfold mag; rw [if_neg h]
    rw [e1]; clear e1
    go_enter Tryd.func36, Tryd.ntmps36
    go_wp2_with fail
    refine (value_any x y hx0 hx1 hy0 hy1 _).mono ?_
    rintro _ r1 ⟨rfl, hbr1⟩
    obtain ⟨hcr1, hfr1⟩ := bcell hbr1
    have hzr1 := hbr1.size
    try simp only [World.size_alloc, World.size_setCell, World.size_drew] at hzr1
    have hlr1w0 : w.heap.size < r1.heap.size := by omega
    have hlr1w1 : w.heap.size + 1 < r1.heap.size := by omega
    go_wp2_with fail
    refine (canon_any x y hx0 hx1 hy0 hy1 _).mono ?_
    rintro _ r2 ⟨rfl, hbr2⟩
    obtain ⟨hcr2, hfr2⟩ := bcell hbr2
    have hzr2 := hbr2.size
    try simp only [World.size_alloc, World.size_setCell, World.size_drew] at hzr2
    have hlr2w0 : w.heap.size < r2.heap.size := by omega
    have hlr2w1 : w.heap.size + 1 < r2.heap.size := by omega
    go_wp2
    refine bodyPost_ret (v := (.agg #[.int .u16 (hi (val x y)), .int .u16 (lo (val x y))])) (by simp [results, Tryd.results36, go_sem, *]) rfl ⟨rfl, ?_⟩; exact (by repeat' (first | (with_reducible exact Below.refl _ _) | (with_reducible refine bl_set ?_ _ ?_) | (with_reducible refine bl_alloc ?_ _) | (with_reducible refine bl_drew ?_) | (with_reducible refine bl_via (by with_reducible assumption) ?_) | (with_reducible assumption) | omega | (simp only []; omega) | (simp; omega)))

end Go.Proofs.YtbbhppjamighdaaDoor
