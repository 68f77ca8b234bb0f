/- Contracts of the reference of layer 15 over this translation. -/
import Derived.Test.YtbbhppjamighdaaDoorPb
import Derived.Test.YtbbhppjamighdaaDoorKa
import Derived.Test.YtbbhppjamighdaaDoorProg
namespace Go.Proofs.YtbbhppjamighdaaDoor
set_option linter.unusedSimpArgs false
set_option linter.unusedVariables false
open Go.RowKit

set_option maxHeartbeats 400000 in
theorem rword_any (x : Int) (h0 : 0 ≤ x) (h1 : x < 65536) (w : World) :
    Calls Tryd.prog 51 #[.int .u16 x] w fun e w' => e = .returned (.int .i64 (wv x)) ∧ w = w' := by
  go_enter Tryd.func51, Tryd.ntmps51
  go_wp2
  all_goals (go_ret; refine ⟨ret_int ?_, rfl⟩; unfold wv; first | rw [if_pos (by omega)] | rw [if_neg (by omega)])

set_option maxHeartbeats 400000 in
theorem rvalue_any (x y : Int) (hx0 : 0 ≤ x) (hx1 : x < 65536) (hy0 : 0 ≤ y) (hy1 : y < 65536) (w : World) :
    Calls Tryd.prog 22 #[(.agg #[.int .u16 (x), .int .u16 (y)])] w fun e w' => e = .returned (.int .i64 (val x y)) ∧ Below w.heap.size w w' := by
  have := wv_lo x
  have := wv_hi x
  have := wv_lo y
  have := wv_hi y
  go_enter Tryd.func22, Tryd.ntmps22
  go_wp2_with fail
  have hecr1 := @Ext.cell
  refine wp_region_ext (by kernel_rfl) (by kernel_rfl) ?_
  repeat (first | go_big_quiet_skip | (go_big_quiet_want; go_big_quiet_op; first | go_big_quiet_on | (go_big_quiet_call ((first | fail | (go_at_call 51; exact ext_call_same (rword_any _ (by assumption) (by assumption) _)))))))
  clear hecr1
  refine wpQuiet_nil ?_
  rintro r1 ⟨⟨_, hbr1⟩, rfl⟩
  obtain ⟨hcr1, hfr1⟩ := bcell hbr1
  have hzr1 := hbr1.size
  try simp only [World.size_alloc, World.size_setCell, World.size_drew] at hzr1
  go_wp2
  go_ret
  exact ⟨rfl, (by repeat' (first | (with_reducible exact Below.refl _ _) | (with_reducible refine bl_set ?_ _ ?_) | (with_reducible refine bl_alloc ?_ _) | (with_reducible refine bl_drew ?_) | (with_reducible refine bl_via (by with_reducible assumption) ?_) | (with_reducible assumption) | omega | (simp only []; omega) | (simp; omega)))⟩


set_option maxHeartbeats 400000 in
theorem rsat_any (v m : Int) (h0 : 0 ≤ m) (h1 : m ≤ 4398046511103) (w : World) :
    Calls Tryd.prog 64 #[.int .i64 v, .int .i64 m] w fun e w' => e = .returned (.int .i64 (sat v m)) ∧ w = w' := by
  go_enter Tryd.func64, Tryd.ntmps64
  go_wp2
  all_goals (go_ret; refine ⟨ret_int ?_, rfl⟩; unfold sat)
  · rw [if_pos (by omega)]
  · rw [if_neg (by omega), if_pos (by omega)]
  · rw [if_neg (by omega), if_neg (by omega)]

set_option maxHeartbeats 400000 in
theorem rout_any (v m : Int) (h0 : 0 ≤ m) (h1 : m ≤ 4398046511103) (w : World) :
    Calls Tryd.prog 65 #[.int .i64 v, .int .i64 m] w fun e w' => e = .returned (.bool (outb v m)) ∧ w = w' := by
  by_cases c1 : m < v
  · rw [show outb v m = true from decide_eq_true (by omega)]
    go_enter Tryd.func65, Tryd.ntmps65
    go_wp2
    go_ret
    exact ⟨rfl, rfl⟩
  · by_cases c2 : v < -m
    · rw [show outb v m = true from decide_eq_true (by omega)]
      have hd : decide (m < v) = false := decide_eq_false c1
      go_enter Tryd.func65, Tryd.ntmps65
      go_wp2
      go_ret
      exact ⟨rfl, rfl⟩
    · rw [show outb v m = false from decide_eq_false (by omega)]
      have hd : decide (m < v) = false := decide_eq_false c1
      have hd2 : decide (v < -m) = false := decide_eq_false c2
      go_enter Tryd.func65, Tryd.ntmps65
      go_wp2
      go_ret
      exact ⟨rfl, rfl⟩

set_option maxHeartbeats 400000 in
theorem rdouble_pos (v : Int) (h0 : 0 ≤ v) (h1 : v ≤ 268435455) (w : World) :
    Calls Tryd.prog 29 #[.int .i64 v] w fun e w' => e = .returned (.agg #[.int .u16 (hi (v)), .int .u16 (lo (v))]) ∧ Below w.heap.size w w' := by
  have e2 : lo v = v % 16384 := by unfold lo; rw [if_neg (by omega)]
  have e3 : hi v = v / 16384 := by unfold hi; rw [if_neg (by omega)]
  have u1 : IntKind.u16.wrap (v / 16384) = v / 16384 := by rw [IntKind.wrap_u16]; omega
  have u2 : IntKind.u16.wrap (v % 16384) = v % 16384 := by rw [IntKind.wrap_u16]; omega
  go_enter Tryd.func29, Tryd.ntmps29
  go_wp2
  refine bodyPost_ret (v := (.agg #[.int .u16 (hi (v)), .int .u16 (lo (v))])) (by simp [results, Tryd.results29, go_sem, *]) rfl ⟨rfl, ?_⟩; exact (by repeat' (first | (with_reducible exact Below.refl _ _) | (with_reducible refine bl_set ?_ _ ?_) | (with_reducible refine bl_alloc ?_ _) | (with_reducible refine bl_drew ?_) | (with_reducible refine bl_via (by with_reducible assumption) ?_) | (with_reducible assumption) | omega | (simp only []; omega) | (simp; omega)))

set_option maxHeartbeats 400000 in
theorem rdouble_neg (v : Int) (h0 : -268435455 ≤ v) (h1 : v < 0) (w : World) :
    Calls Tryd.prog 29 #[.int .i64 v] w fun e w' => e = .returned (.agg #[.int .u16 (hi (v)), .int .u16 (lo (v))]) ∧ Below w.heap.size w w' := by
  have f2 : lo v = 32767 - lo (-v) := by unfold lo; rw [if_neg (show ¬ -v < 0 by omega), if_pos h1]
  have f3 : hi v = 32767 - hi (-v) := by unfold hi; rw [if_neg (show ¬ -v < 0 by omega), if_pos h1]
  obtain ⟨a0, a1, a2, a3⟩ := hi_lo (-v) (by omega) (by omega)
  have u1 : IntKind.u16.wrap (32767 - hi (-v)) = 32767 - hi (-v) := by rw [IntKind.wrap_u16]; omega
  have u2 : IntKind.u16.wrap (32767 - lo (-v)) = 32767 - lo (-v) := by rw [IntKind.wrap_u16]; omega
  rw [f2, f3]; clear f2 f3
  go_enter Tryd.func29, Tryd.ntmps29
  go_wp2_with fail
  refine (rdouble_pos (-v) (by omega) (by omega) _).mono ?_
  rintro _ r1 ⟨rfl, hbr1⟩
  obtain ⟨hcr1, hfr1⟩ := bcell hbr1
  have hzr1 := hbr1.size
  try simp only [World.size_alloc, World.size_setCell, World.size_drew] at hzr1
  have hlr1w0 : w.heap.size < r1.heap.size := by omega
  go_wp2
  refine bodyPost_ret (v := (.agg #[.int .u16 (32767 - hi (-v)), .int .u16 (32767 - lo (-v))])) (by simp [results, Tryd.results29, go_sem, *]) rfl ⟨rfl, ?_⟩; exact (by repeat' (first | (with_reducible exact Below.refl _ _) | (with_reducible refine bl_set ?_ _ ?_) | (with_reducible refine bl_alloc ?_ _) | (with_reducible refine bl_drew ?_) | (with_reducible refine bl_via (by with_reducible assumption) ?_) | (with_reducible assumption) | omega | (simp only []; omega) | (simp; omega)))

theorem rdouble_any (v : Int) (h0 : -268435455 ≤ v) (h1 : v ≤ 268435455) (w : World) :
    Calls Tryd.prog 29 #[.int .i64 v] w fun e w' => e = .returned (.agg #[.int .u16 (hi (v)), .int .u16 (lo (v))]) ∧ Below w.heap.size w w' := by
  by_cases h : v < 0
  · exact rdouble_neg v h0 h w
  · exact rdouble_pos v (by omega) h1 w


set_option maxHeartbeats 400000 in
theorem rround_pos (p q : Int) (h0 : 0 ≤ p) (h1 : p ≤ 4611686018427387904) (g0 : 1 ≤ q) (g1 : q ≤ 4611686018427387904) (w : World) :
    Calls Tryd.prog 39 #[.int .i64 p, .int .i64 q] w fun e w' => e = .returned (.int .i64 (rnd p q)) ∧ Below w.heap.size w w' := by
  have k0 : 0 ≤ p % q := Int.emod_nonneg p (by omega)
  have k1 : p % q < q := Int.emod_lt_of_pos p (by omega)
  have k2 : 0 ≤ p / q := Int.ediv_nonneg h0 (by omega)
  have k3 : p / q ≤ p := by have := Int.ediv_le_self q h0; omega
  by_cases c : q - p % q ≤ p % q
  · have e : rnd p q = p / q + 1 := by unfold rnd rndN; rw [if_neg (by omega), if_pos c]
    rw [e]; clear e
    go_enter Tryd.func39, Tryd.ntmps39
    go_wp2_with fail
    have hecr1 := @Ext.cell
    refine wp_region_ext (by kernel_rfl) (by kernel_rfl) ?_
    repeat (first | go_big_quiet_skip | (go_big_quiet_want; go_big_quiet_op; first | go_big_quiet_on | (go_big_quiet_call ((first | fail | fail)))))
    clear hecr1
    refine wpQuiet_nil ?_
    rintro r1 ⟨⟨_, hbr1⟩, rfl⟩
    obtain ⟨hcr1, hfr1⟩ := bcell hbr1
    have hzr1 := hbr1.size
    try simp only [World.size_alloc, World.size_setCell, World.size_drew] at hzr1
    go_wp2
    go_ret
    exact ⟨rfl, (by repeat' (first | (with_reducible exact Below.refl _ _) | (with_reducible refine bl_set ?_ _ ?_) | (with_reducible refine bl_alloc ?_ _) | (with_reducible refine bl_drew ?_) | (with_reducible refine bl_via (by with_reducible assumption) ?_) | (with_reducible assumption) | omega | (simp only []; omega) | (simp; omega)))⟩
  · have e : rnd p q = p / q := by unfold rnd rndN; rw [if_neg (by omega), if_neg c]
    rw [e]; clear e
    go_enter Tryd.func39, Tryd.ntmps39
    go_wp2_with fail
    have hecr1 := @Ext.cell
    refine wp_region_ext (by kernel_rfl) (by kernel_rfl) ?_
    repeat (first | go_big_quiet_skip | (go_big_quiet_want; go_big_quiet_op; first | go_big_quiet_on | (go_big_quiet_call ((first | fail | fail)))))
    clear hecr1
    refine wpQuiet_nil ?_
    rintro r1 ⟨⟨_, hbr1⟩, rfl⟩
    obtain ⟨hcr1, hfr1⟩ := bcell hbr1
    have hzr1 := hbr1.size
    try simp only [World.size_alloc, World.size_setCell, World.size_drew] at hzr1
    go_wp2
    go_ret
    exact ⟨rfl, (by repeat' (first | (with_reducible exact Below.refl _ _) | (with_reducible refine bl_set ?_ _ ?_) | (with_reducible refine bl_alloc ?_ _) | (with_reducible refine bl_drew ?_) | (with_reducible refine bl_via (by with_reducible assumption) ?_) | (with_reducible assumption) | omega | (simp only []; omega) | (simp; omega)))⟩

set_option maxHeartbeats 400000 in
theorem rround_neg (p q : Int) (h0 : -4611686018427387904 ≤ p) (h1 : p < 0) (g0 : 1 ≤ q) (g1 : q ≤ 4611686018427387904) (w : World) :
    Calls Tryd.prog 39 #[.int .i64 p, .int .i64 q] w fun e w' => e = .returned (.int .i64 (rnd p q)) ∧ Below w.heap.size w w' := by
  have e1 : rnd p q = -rnd (-p) q := by have := rnd_neg p q (by omega); omega
  have b := rnd_size (-p) q 4611686018427387904 g0 (by omega) (by omega) (by omega)
  obtain ⟨b0, b1⟩ := b
  rw [e1]; clear e1
  go_enter Tryd.func39, Tryd.ntmps39
  go_wp2_with fail
  refine (rround_pos (-p) q (by omega) (by omega) g0 g1 _).mono ?_
  rintro _ r1 ⟨rfl, hbr1⟩
  obtain ⟨hcr1, hfr1⟩ := bcell hbr1
  have hzr1 := hbr1.size
  try simp only [World.size_alloc, World.size_setCell, World.size_drew] at hzr1
  go_wp2
  go_ret
  exact ⟨rfl, (by repeat' (first | (with_reducible exact Below.refl _ _) | (with_reducible refine bl_set ?_ _ ?_) | (with_reducible refine bl_alloc ?_ _) | (with_reducible refine bl_drew ?_) | (with_reducible refine bl_via (by with_reducible assumption) ?_) | (with_reducible assumption) | omega | (simp only []; omega) | (simp; omega)))⟩

theorem rround_any (p q : Int) (h0 : -4611686018427387904 ≤ p) (h1 : p ≤ 4611686018427387904) (g0 : 1 ≤ q) (g1 : q ≤ 4611686018427387904) (w : World) :
    Calls Tryd.prog 39 #[.int .i64 p, .int .i64 q] w fun e w' => e = .returned (.int .i64 (rnd p q)) ∧ Below w.heap.size w w' := by
  by_cases h : p < 0
  · exact rround_neg p q h0 h g0 g1 w
  · exact rround_pos p q (by omega) h1 g0 g1 w

set_option maxHeartbeats 400000 in
theorem rclamp_any (v : Int) (w : World) :
    Calls Tryd.prog 34 #[.int .i64 v] w fun e w' => e = .returned (.tuple #[(.agg #[.int .u16 (hi (sat v 268435455)), .int .u16 (lo (sat v 268435455))]), .bool (outb v 268435455)]) ∧ Below w.heap.size w w' := by
  have k0 := sat_lo v 268435455 (by omega)
  have k1 := sat_hi v 268435455 (by omega)
  go_enter Tryd.func34, Tryd.ntmps34
  go_wp2_with fail
  refine (rsat_any v 268435455 (by omega) (by omega) _).mono ?_
  rintro _ _ ⟨rfl, rfl⟩
  go_wp2_with fail
  refine (rdouble_any (sat v 268435455) k0 k1 _).mono ?_
  rintro _ r1 ⟨rfl, hbr1⟩
  obtain ⟨hcr1, hfr1⟩ := bcell hbr1
  have hzr1 := hbr1.size
  try simp only [World.size_alloc, World.size_setCell, World.size_drew] at hzr1
  have hlr1w0 : w.heap.size < r1.heap.size := by omega
  go_wp2_with fail
  refine (rout_any v 268435455 (by omega) (by omega) _).mono ?_
  rintro _ _ ⟨rfl, rfl⟩
  go_wp2
  refine bodyPost_ret (v := .tuple #[(.agg #[.int .u16 (hi (sat v 268435455)), .int .u16 (lo (sat v 268435455))]), .bool (outb v 268435455)]) (by simp [results, Tryd.results34, go_sem, *]) rfl ⟨rfl, ?_⟩; exact (by repeat' (first | (with_reducible exact Below.refl _ _) | (with_reducible refine bl_set ?_ _ ?_) | (with_reducible refine bl_alloc ?_ _) | (with_reducible refine bl_drew ?_) | (with_reducible refine bl_via (by with_reducible assumption) ?_) | (with_reducible assumption) | omega | (simp only []; omega) | (simp; omega)))
end Go.Proofs.YtbbhppjamighdaaDoor
