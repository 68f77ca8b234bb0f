/- Contracts of package double on triples over this translation. -/
import Derived.Test.YtojbdalhngcddaaDa
namespace Go.Proofs.Ytojbdalhngcddaa
set_option linter.unusedSimpArgs false
set_option linter.unusedVariables false
open Go.RowKit

set_option maxHeartbeats 400000 in
theorem triple_neg (v : Int) (h0 : -4398046511103 ≤ v) (h1 : v < 0) (w : World) :
    Calls Try.prog 44 #[.int .i64 v] w fun e w' => e = .returned (.agg #[.int .u16 (th (v)), .int .u16 (tm (v)), .int .u16 (lo (v))]) ∧ Below w.heap.size w w' := by
  have e0 : -v / 16384 / 16384 % 16384 = -v / 268435456 := by omega
  have e2 : lo v = 32767 - -v % 16384 := by unfold lo; rw [if_pos h1]
  have e3 : tm v = 32767 - -v / 16384 % 16384 := by unfold tm; rw [if_pos h1]
  have e4 : th v = 32767 - -v / 268435456 := by unfold th; rw [if_pos h1]
  go_enter Try.func44, Try.ntmps44
  go_wp2_with fail
  refine (digits_neg v (by omega) h1 _).mono ?_
  rintro _ _ ⟨rfl, rfl⟩
  go_wp2_with fail
  refine (digit_neg _ _ (-v) (by omega) (by omega) _ (by go_simp) (by go_simp) (by go_simp) (by omega)).mono ?_
  rintro _ _ ⟨rfl, rfl⟩
  go_wp2_with fail
  refine (digit_neg _ _ (-v / 16384) (by omega) (by omega) _ (by go_simp) (by go_simp) (by go_simp) (by omega)).mono ?_
  rintro _ _ ⟨rfl, rfl⟩
  go_wp2_with fail
  refine (digit_neg _ _ (-v / 16384 / 16384) (by omega) (by omega) _ (by go_simp) (by go_simp) (by go_simp) (by omega)).mono ?_
  rintro _ _ ⟨rfl, rfl⟩
  go_wp2_with fail
  refine bodyPost_ret (v := (.agg #[.int .u16 (th (v)), .int .u16 (tm (v)), .int .u16 (lo (v))])) (by simp [results, Try.results44, go_sem, e2, e3, e4, e0]) rfl ⟨rfl, ?_⟩
  exact (by repeat' (first | exact Below.refl _ _ | refine bl_alloc ?_ _ | refine bl_drew ?_ | refine bl_set ?_ _ ?_ | refine bl_via (by assumption) ?_ | (simp only []; omega) | omega | (simp; omega)))

set_option maxHeartbeats 400000 in
theorem triple_pos (v : Int) (h0 : 0 ≤ v) (h1 : v ≤ 4398046511103) (w : World) :
    Calls Try.prog 44 #[.int .i64 v] w fun e w' => e = .returned (.agg #[.int .u16 (th (v)), .int .u16 (tm (v)), .int .u16 (lo (v))]) ∧ Below w.heap.size w w' := by
  have e0 : v / 16384 / 16384 % 16384 = v / 268435456 := by omega
  have e2 : lo v = v % 16384 := by unfold lo; rw [if_neg (by omega)]
  have e3 : tm v = v / 16384 % 16384 := by unfold tm; rw [if_neg (by omega)]
  have e4 : th v = v / 268435456 := by unfold th; rw [if_neg (by omega)]
  go_enter Try.func44, Try.ntmps44
  go_wp2_with fail
  refine (digits_pos v (by omega) (by omega) _).mono ?_
  rintro _ _ ⟨rfl, rfl⟩
  go_wp2_with fail
  refine (digit_pos _ _ v (by omega) (by omega) _ (by go_simp) (by go_simp) (by go_simp) (by omega)).mono ?_
  rintro _ _ ⟨rfl, rfl⟩
  go_wp2_with fail
  refine (digit_pos _ _ (v / 16384) (by omega) (by omega) _ (by go_simp) (by go_simp) (by go_simp) (by omega)).mono ?_
  rintro _ _ ⟨rfl, rfl⟩
  go_wp2_with fail
  refine (digit_pos _ _ (v / 16384 / 16384) (by omega) (by omega) _ (by go_simp) (by go_simp) (by go_simp) (by omega)).mono ?_
  rintro _ _ ⟨rfl, rfl⟩
  go_wp2_with fail
  refine bodyPost_ret (v := (.agg #[.int .u16 (th (v)), .int .u16 (tm (v)), .int .u16 (lo (v))])) (by simp [results, Try.results44, go_sem, e2, e3, e4, e0]) rfl ⟨rfl, ?_⟩
  exact (by repeat' (first | exact Below.refl _ _ | refine bl_alloc ?_ _ | refine bl_drew ?_ | refine bl_set ?_ _ ?_ | refine bl_via (by assumption) ?_ | (simp only []; omega) | omega | (simp; omega)))

theorem triple_any (v : Int) (h0 : -4398046511103 ≤ v) (h1 : v ≤ 4398046511103) (w : World) :
    Calls Try.prog 44 #[.int .i64 v] w fun e w' => e = .returned (.agg #[.int .u16 (th (v)), .int .u16 (tm (v)), .int .u16 (lo (v))]) ∧ Below w.heap.size w w' := by
  by_cases h : v < 0
  · exact triple_neg v h0 h w
  · exact triple_pos v (by omega) h1 w

set_option maxHeartbeats 400000 in
theorem maketri_in (v : Int) (h0 : -4398046511103 ≤ v) (h1 : v ≤ 4398046511103) (w : World) :
    Calls Try.prog 28 #[.int .i64 v] w fun e w' => e = .returned (.tuple #[(.agg #[.int .u16 (th (v)), .int .u16 (tm (v)), .int .u16 (lo (v))]), .int .i64 0]) ∧ Below w.heap.size w w' := by
  have ho := outb_in v 4398046511103 h0 h1
  go_enter Try.func28, Try.ntmps28
  go_wp2_with fail
  refine (bounded_any v 4398046511103 (by omega) (by omega) _).mono ?_
  rintro _ _ ⟨rfl, rfl⟩
  go_wp2_with fail
  refine (triple_any v h0 h1 _).mono ?_
  rintro _ r1 ⟨rfl, hbr1⟩
  obtain ⟨hcr1, hfr1⟩ := bcell hbr1
  have hzr1 := hbr1.size
  try simp only [World.size_alloc, World.size_setCell, World.size_drew] at hzr1
  have hlr1w0 : w.heap.size < r1.heap.size := by omega
  go_wp2
  refine bodyPost_ret (v := .tuple #[(.agg #[.int .u16 (th (v)), .int .u16 (tm (v)), .int .u16 (lo (v))]), .int .i64 0]) (by simp [results, Try.results28, go_sem, *]) rfl ⟨rfl, ?_⟩; exact (by repeat' (first | exact Below.refl _ _ | refine bl_alloc ?_ _ | refine bl_drew ?_ | refine bl_set ?_ _ ?_ | refine bl_via (by assumption) ?_ | (simp only []; omega) | omega | (simp; omega)))

set_option maxHeartbeats 400000 in
theorem maketri_out (v : Int) (ho : outb v 4398046511103 = true) (w : World) :
    Calls Try.prog 28 #[.int .i64 v] w fun e w' => e = .returned (.tuple #[(.agg #[.int .u16 (0), .int .u16 (0), .int .u16 (0)]), .int .i64 3]) ∧ Below w.heap.size w w' := by
  go_enter Try.func28, Try.ntmps28
  go_wp2_with fail
  refine (bounded_any v 4398046511103 (by omega) (by omega) _).mono ?_
  rintro _ _ ⟨rfl, rfl⟩
  go_wp2
  refine bodyPost_ret (v := .tuple #[(.agg #[.int .u16 (0), .int .u16 (0), .int .u16 (0)]), .int .i64 3]) (by simp [results, Try.results28, go_sem, *]) rfl ⟨rfl, ?_⟩; exact (by repeat' (first | exact Below.refl _ _ | refine bl_alloc ?_ _ | refine bl_drew ?_ | refine bl_set ?_ _ ?_ | refine bl_via (by assumption) ?_ | (simp only []; omega) | omega | (simp; omega)))

set_option maxHeartbeats 400000 in
theorem tvalue_any (x y z : Int) (hx0 : 0 ≤ x) (hx1 : x < 65536) (hy0 : 0 ≤ y) (hy1 : y < 65536) (hz0 : 0 ≤ z) (hz1 : z < 65536) (w : World) :
    Calls Try.prog 31 #[(.agg #[.int .u16 (x), .int .u16 (y), .int .u16 (z)])] w fun e w' => e = .returned (.int .i64 (tval x y z)) ∧ Below w.heap.size w w' := by
  have := wv_lo x
  have := wv_hi x
  have := wv_lo y
  have := wv_hi y
  have := wv_lo z
  have := wv_hi z
  go_enter Try.func31, Try.ntmps31
  go_wp2_with fail
  have hecr1 := @Ext.cell
  refine wp_region_ext (by kernel_rfl) (by kernel_rfl) ?_
  repeat (first | go_big_quiet_skip | (go_big_quiet_want; go_big_quiet_op; first | go_big_quiet_on | (go_big_quiet_call ((first | fail | (go_at_call 41; exact ext_call_same (word_any _ (by assumption) (by assumption) _)))))))
  clear hecr1
  refine wpQuiet_nil ?_
  rintro r1 ⟨⟨_, hbr1⟩, rfl⟩
  obtain ⟨hcr1, hfr1⟩ := bcell hbr1
  have hzr1 := hbr1.size
  try simp only [World.size_alloc, World.size_setCell, World.size_drew] at hzr1
  go_wp2
  go_ret
  exact ⟨rfl, (by repeat' (first | exact Below.refl _ _ | refine bl_alloc ?_ _ | refine bl_drew ?_ | refine bl_set ?_ _ ?_ | refine bl_via (by assumption) ?_ | (simp only []; omega) | omega | (simp; omega)))⟩

set_option maxHeartbeats 400000 in
theorem extend_any (x y : Int) (hx0 : 0 ≤ x) (hx1 : x < 65536) (hy0 : 0 ≤ y) (hy1 : y < 65536) (w : World) :
    Calls Try.prog 37 #[(.agg #[.int .u16 (x), .int .u16 (y)])] w fun e w' => e = .returned (.agg #[.int .u16 (th (val x y * 16384)), .int .u16 (tm (val x y * 16384)), .int .u16 (lo (val x y * 16384))]) ∧ Below w.heap.size w w' := by
  have k0 := val_lo x y
  have k1 := val_hi x y
  go_enter Try.func37, Try.ntmps37
  go_wp2_with fail
  refine (value_any x y hx0 hx1 hy0 hy1 _).mono ?_
  rintro _ r1 ⟨rfl, hbr1⟩
  obtain ⟨hcr1, hfr1⟩ := bcell hbr1
  have hzr1 := hbr1.size
  try simp only [World.size_alloc, World.size_setCell, World.size_drew] at hzr1
  have hlr1w0 : w.heap.size < r1.heap.size := by omega
  have hlr1w1 : w.heap.size + 1 < r1.heap.size := by omega
  go_wp2_with fail
  refine (triple_any (val x y * 16384) (by omega) (by omega) _).mono ?_
  rintro _ r2 ⟨rfl, hbr2⟩
  obtain ⟨hcr2, hfr2⟩ := bcell hbr2
  have hzr2 := hbr2.size
  try simp only [World.size_alloc, World.size_setCell, World.size_drew] at hzr2
  have hlr2w0 : w.heap.size < r2.heap.size := by omega
  have hlr2w1 : w.heap.size + 1 < r2.heap.size := by omega
  go_wp2
  refine bodyPost_ret (v := (.agg #[.int .u16 (th (val x y * 16384)), .int .u16 (tm (val x y * 16384)), .int .u16 (lo (val x y * 16384))])) (by simp [results, Try.results37, go_sem, *]) rfl ⟨rfl, ?_⟩; exact (by repeat' (first | exact Below.refl _ _ | refine bl_alloc ?_ _ | refine bl_drew ?_ | refine bl_set ?_ _ ?_ | refine bl_via (by assumption) ?_ | (simp only []; omega) | omega | (simp; omega)))

set_option maxHeartbeats 400000 in
theorem addtri_any (x y z s u v : Int) (hx0 : 0 ≤ x) (hx1 : x < 65536) (hy0 : 0 ≤ y) (hy1 : y < 65536) (hz0 : 0 ≤ z) (hz1 : z < 65536) (hs0 : 0 ≤ s) (hs1 : s < 65536) (hu0 : 0 ≤ u) (hu1 : u < 65536) (hv0 : 0 ≤ v) (hv1 : v < 65536) (w : World) :
    Calls Try.prog 33 #[(.agg #[.int .u16 (x), .int .u16 (y), .int .u16 (z)]), (.agg #[.int .u16 (s), .int .u16 (u), .int .u16 (v)])] w fun e w' => e = .returned (.tuple #[(.agg #[.int .u16 (th (sat (tval x y z + tval s u v) 4398046511103)), .int .u16 (tm (sat (tval x y z + tval s u v) 4398046511103)), .int .u16 (lo (sat (tval x y z + tval s u v) 4398046511103))]), .bool (outb (tval x y z + tval s u v) 4398046511103)]) ∧ Below w.heap.size w w' := by
  have := tval_lo x y z
  have := tval_hi x y z
  have := tval_lo s u v
  have := tval_hi s u v
  have q0 := sat_lo (tval x y z + tval s u v) 4398046511103 (by omega)
  have q1 := sat_hi (tval x y z + tval s u v) 4398046511103 (by omega)
  go_enter Try.func33, Try.ntmps33
  go_wp2_with fail
  have hecr1 := @Ext.cell
  refine wp_region_ext (by kernel_rfl) (by kernel_rfl) ?_
  repeat (first | go_big_quiet_skip | (go_big_quiet_want; go_big_quiet_op; first | go_big_quiet_on | (go_big_quiet_call ((first | fail | (go_at_call 31; exact ext_call (tvalue_any _ _ _ (by assumption) (by assumption) (by assumption) (by assumption) (by assumption) (by assumption) _)) | (go_at_call 43; exact ext_call_same (bounded_any _ _ (by omega) (by omega) _)))))))
  clear hecr1
  refine wpQuiet_nil ?_
  rintro r1 ⟨⟨_, hbr1⟩, rfl⟩
  obtain ⟨hcr1, hfr1⟩ := bcell hbr1
  have hzr1 := hbr1.size
  try simp only [World.size_alloc, World.size_setCell, World.size_drew] at hzr1
  have hlr1w0 : w.heap.size < r1.heap.size := by omega
  have hlr1w1 : w.heap.size + 1 < r1.heap.size := by omega
  have hlr1w2 : w.heap.size + 1 + 1 < r1.heap.size := by omega
  go_wp2_with fail
  refine (triple_any _ q0 q1 _).mono ?_
  rintro _ r2 ⟨rfl, hbr2⟩
  obtain ⟨hcr2, hfr2⟩ := bcell hbr2
  have hzr2 := hbr2.size
  try simp only [World.size_alloc, World.size_setCell, World.size_drew] at hzr2
  have hlr2w0 : w.heap.size < r2.heap.size := by omega
  have hlr2w1 : w.heap.size + 1 < r2.heap.size := by omega
  have hlr2w2 : w.heap.size + 1 + 1 < r2.heap.size := by omega
  go_wp2
  refine bodyPost_ret (v := (.tuple #[(.agg #[.int .u16 (th (sat (tval x y z + tval s u v) 4398046511103)), .int .u16 (tm (sat (tval x y z + tval s u v) 4398046511103)), .int .u16 (lo (sat (tval x y z + tval s u v) 4398046511103))]), .bool (outb (tval x y z + tval s u v) 4398046511103)])) (by simp [results, Try.results33, go_sem, *]) rfl ⟨rfl, ?_⟩; exact (by repeat' (first | exact Below.refl _ _ | refine bl_alloc ?_ _ | refine bl_drew ?_ | refine bl_set ?_ _ ?_ | refine bl_via (by assumption) ?_ | (simp only []; omega) | omega | (simp; omega)))

set_option maxHeartbeats 400000 in
theorem round_any (x y z : Int) (hx0 : 0 ≤ x) (hx1 : x < 65536) (hy0 : 0 ≤ y) (hy1 : y < 65536) (hz0 : 0 ≤ z) (hz1 : z < 65536) (w : World) :
    Calls Try.prog 34 #[(.agg #[.int .u16 (x), .int .u16 (y), .int .u16 (z)])] w fun e w' => e = .returned (.tuple #[(.agg #[.int .u16 (hi (sat (rnd (tval x y z) 16384) 268435455)), .int .u16 (lo (sat (rnd (tval x y z) 16384) 268435455))]), .bool (outb (rnd (tval x y z) 16384) 268435455)]) ∧ Below w.heap.size w w' := by
  have k0 := tval_lo x y z
  have k1 := tval_hi x y z
  have e : pw 14 = 16384 := rfl
  rw [← e]; clear e
  go_enter Try.func34, Try.ntmps34
  go_wp2_with fail
  refine (tvalue_any x y z hx0 hx1 hy0 hy1 hz0 hz1 _).mono ?_
  rintro _ r1 ⟨rfl, hbr1⟩
  obtain ⟨hcr1, hfr1⟩ := bcell hbr1
  have hzr1 := hbr1.size
  try simp only [World.size_alloc, World.size_setCell, World.size_drew] at hzr1
  have hlr1w0 : w.heap.size < r1.heap.size := by omega
  have hlr1w1 : w.heap.size + 1 < r1.heap.size := by omega
  go_wp2_with fail
  refine (half_any (tval x y z) 14 k0 k1 (by omega) (by omega) _).mono ?_
  rintro _ _ ⟨rfl, rfl⟩
  go_wp2_with fail
  refine (clamp_any _ _).mono ?_
  rintro _ r2 ⟨rfl, hbr2⟩
  obtain ⟨hcr2, hfr2⟩ := bcell hbr2
  have hzr2 := hbr2.size
  try simp only [World.size_alloc, World.size_setCell, World.size_drew] at hzr2
  have hlr2w0 : w.heap.size < r2.heap.size := by omega
  have hlr2w1 : w.heap.size + 1 < r2.heap.size := by omega
  go_wp2
  refine bodyPost_ret (v := (.tuple #[(.agg #[.int .u16 (hi (sat (rnd (tval x y z) (pw 14)) 268435455)), .int .u16 (lo (sat (rnd (tval x y z) (pw 14)) 268435455))]), .bool (outb (rnd (tval x y z) (pw 14)) 268435455)])) (by simp [results, Try.results34, go_sem, *]) rfl ⟨rfl, ?_⟩; exact (by repeat' (first | exact Below.refl _ _ | refine bl_alloc ?_ _ | refine bl_drew ?_ | refine bl_set ?_ _ ?_ | refine bl_via (by assumption) ?_ | (simp only []; omega) | omega | (simp; omega)))
end Go.Proofs.Ytojbdalhngcddaa
