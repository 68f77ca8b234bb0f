/- Contracts of package fixed over this translation: quotient, exactly, Mul. -/
import Derived.Test.YtbbhppjamighdaaDoorDa
import Derived.Test.YtbbhppjamighdaaDoorDt
namespace Go.Proofs.YtbbhppjamighdaaDoor
set_option linter.unusedSimpArgs false
set_option linter.unusedVariables false
open Go.RowKit

/-- The rounded product. -/
def mulv (a b : Int) : Int := rnd (a * b) 268435456
theorem mulv_size (a b : Int) (ha : -268435455 ≤ a) (ha' : a ≤ 268435455) (hb : -268435455 ≤ b) (hb' : b ≤ 268435455) : -268435455 ≤ mulv a b ∧ mulv a b ≤ 268435455 := by
  have h1 := mul_size' a b 268435455 268435455 (by omega) (by omega) ha ha' hb hb'
  unfold mulv
  exact ⟨rnd_ge _ _ _ (by omega) (by omega), rnd_le _ _ _ (by omega) (by omega)⟩
theorem fmul_bd (a x : Int) (ha : -268435455 ≤ a) (ha' : a ≤ 268435455) (hx : -268435455 ≤ x) (hx' : x ≤ 268435455) : -72057593501057025 ≤ a * x ∧ a * x ≤ 72057593501057025 := by
  have h1 := mul_size' a x 268435455 268435455 (by omega) (by omega) ha ha' hx hx'
  omega

set_option maxHeartbeats 400000 in
theorem fquot_pos (p q : Int) (h0 : 0 ≤ p) (h1 : p ≤ 4611686018427387904) (g0 : 1 ≤ q) (g1 : q ≤ 4611686018427387904) (w : World) :
    Calls Tryd.prog 63 #[.int .i64 p, .int .i64 q] w fun e w' => e = .returned (.int .i64 (rnd p q)) ∧ Below w.heap.size w w' := by
  have k0 : 0 ≤ p % q := Int.emod_nonneg p (by omega)
  have k1 : p % q < q := Int.emod_lt_of_pos p (by omega)
  have k2 : 0 ≤ p / q := Int.ediv_nonneg h0 (by omega)
  have k3 : p / q ≤ p := by have := Int.ediv_le_self q h0; omega
  by_cases c : q - p % q ≤ p % q
  · have e : rnd p q = p / q + 1 := by unfold rnd rndN; rw [if_neg (by omega), if_pos c]
    rw [e]; clear e
    go_enter Tryd.func63, Tryd.ntmps63
    go_wp2_with fail
    have hecr1 := @Ext.cell
    refine wp_region_ext (by kernel_rfl) (by kernel_rfl) ?_
    repeat (first | go_big_quiet_skip | (go_big_quiet_want; go_big_quiet_op; first | go_big_quiet_on | (go_big_quiet_call ((first | fail | fail)))))
    clear hecr1
    refine wpQuiet_nil ?_
    rintro r1 ⟨⟨_, hbr1⟩, rfl⟩
    obtain ⟨hcr1, hfr1⟩ := bcell hbr1
    have hzr1 := hbr1.size
    try simp only [World.size_alloc, World.size_setCell, World.size_drew] at hzr1
    go_wp2
    go_ret
    exact ⟨rfl, (by repeat' (first | (with_reducible exact Below.refl _ _) | (with_reducible refine bl_set ?_ _ ?_) | (with_reducible refine bl_alloc ?_ _) | (with_reducible refine bl_drew ?_) | (with_reducible refine bl_via (by with_reducible assumption) ?_) | (with_reducible assumption) | omega | (simp only []; omega) | (simp; omega)))⟩
  · have e : rnd p q = p / q := by unfold rnd rndN; rw [if_neg (by omega), if_neg c]
    rw [e]; clear e
    go_enter Tryd.func63, Tryd.ntmps63
    go_wp2_with fail
    have hecr1 := @Ext.cell
    refine wp_region_ext (by kernel_rfl) (by kernel_rfl) ?_
    repeat (first | go_big_quiet_skip | (go_big_quiet_want; go_big_quiet_op; first | go_big_quiet_on | (go_big_quiet_call ((first | fail | fail)))))
    clear hecr1
    refine wpQuiet_nil ?_
    rintro r1 ⟨⟨_, hbr1⟩, rfl⟩
    obtain ⟨hcr1, hfr1⟩ := bcell hbr1
    have hzr1 := hbr1.size
    try simp only [World.size_alloc, World.size_setCell, World.size_drew] at hzr1
    go_wp2
    go_ret
    exact ⟨rfl, (by repeat' (first | (with_reducible exact Below.refl _ _) | (with_reducible refine bl_set ?_ _ ?_) | (with_reducible refine bl_alloc ?_ _) | (with_reducible refine bl_drew ?_) | (with_reducible refine bl_via (by with_reducible assumption) ?_) | (with_reducible assumption) | omega | (simp only []; omega) | (simp; omega)))⟩

set_option maxHeartbeats 400000 in
theorem fquot_neg (p q : Int) (h0 : -4611686018427387904 ≤ p) (h1 : p < 0) (g0 : 1 ≤ q) (g1 : q ≤ 4611686018427387904) (w : World) :
    Calls Tryd.prog 63 #[.int .i64 p, .int .i64 q] w fun e w' => e = .returned (.int .i64 (rnd p q)) ∧ Below w.heap.size w w' := by
  have e1 : rnd p q = -rnd (-p) q := by have := rnd_neg p q (by omega); omega
  have b := rnd_size (-p) q 4611686018427387904 g0 (by omega) (by omega) (by omega)
  obtain ⟨b0, b1⟩ := b
  rw [e1]; clear e1
  go_enter Tryd.func63, Tryd.ntmps63
  go_wp2_with fail
  refine (fquot_pos (-p) q (by omega) (by omega) g0 g1 _).mono ?_
  rintro _ r1 ⟨rfl, hbr1⟩
  obtain ⟨hcr1, hfr1⟩ := bcell hbr1
  have hzr1 := hbr1.size
  try simp only [World.size_alloc, World.size_setCell, World.size_drew] at hzr1
  go_wp2
  go_ret
  exact ⟨rfl, (by repeat' (first | (with_reducible exact Below.refl _ _) | (with_reducible refine bl_set ?_ _ ?_) | (with_reducible refine bl_alloc ?_ _) | (with_reducible refine bl_drew ?_) | (with_reducible refine bl_via (by with_reducible assumption) ?_) | (with_reducible assumption) | omega | (simp only []; omega) | (simp; omega)))⟩

theorem fquot_any (p q : Int) (h0 : -4611686018427387904 ≤ p) (h1 : p ≤ 4611686018427387904) (g0 : 1 ≤ q) (g1 : q ≤ 4611686018427387904) (w : World) :
    Calls Tryd.prog 63 #[.int .i64 p, .int .i64 q] w fun e w' => e = .returned (.int .i64 (rnd p q)) ∧ Below w.heap.size w w' := by
  by_cases h : p < 0
  · exact fquot_neg p q h0 h g0 g1 w
  · exact fquot_pos p q (by omega) h1 g0 g1 w

set_option maxHeartbeats 400000 in
theorem exactly_any (v : Int) (w : World) :
    Calls Tryd.prog 62 #[.int .i64 v] w fun e w' => e = .returned (.agg #[.int .u16 (hi (sat v 268435455)), .int .u16 (lo (sat v 268435455))]) ∧ Below w.heap.size w w' := by
  go_enter Tryd.func62, Tryd.ntmps62
  go_wp2_with fail
  refine (clamp_any v _).mono ?_
  rintro _ r1 ⟨rfl, hbr1⟩
  obtain ⟨hcr1, hfr1⟩ := bcell hbr1
  have hzr1 := hbr1.size
  try simp only [World.size_alloc, World.size_setCell, World.size_drew] at hzr1
  have hlr1w0 : w.heap.size < r1.heap.size := by omega
  go_wp2
  refine bodyPost_ret (v := (.agg #[.int .u16 (hi (sat v 268435455)), .int .u16 (lo (sat v 268435455))])) (by simp [results, Tryd.results62, go_sem, *]) rfl ⟨rfl, ?_⟩; exact (by repeat' (first | (with_reducible exact Below.refl _ _) | (with_reducible refine bl_set ?_ _ ?_) | (with_reducible refine bl_alloc ?_ _) | (with_reducible refine bl_drew ?_) | (with_reducible refine bl_via (by with_reducible assumption) ?_) | (with_reducible assumption) | omega | (simp only []; omega) | (simp; omega)))

theorem exactly_in (v : Int) (h0 : -268435455 ≤ v) (h1 : v ≤ 268435455) (w : World) :
    Calls Tryd.prog 62 #[.int .i64 v] w fun e w' => e = .returned (.agg #[.int .u16 (hi (v)), .int .u16 (lo (v))]) ∧ Below w.heap.size w w' := by
  have h := exactly_any v w
  rw [sat_in v _ h0 h1] at h
  exact h

set_option maxHeartbeats 400000 in
theorem mul_any (x y z u : Int) (hx0 : 0 ≤ x) (hx1 : x < 65536) (hy0 : 0 ≤ y) (hy1 : y < 65536) (hz0 : 0 ≤ z) (hz1 : z < 65536) (hu0 : 0 ≤ u) (hu1 : u < 65536) (w : World) :
    Calls Tryd.prog 32 #[(.agg #[.int .u16 (x), .int .u16 (y)]), (.agg #[.int .u16 (z), .int .u16 (u)])] w fun e w' => e = .returned (.agg #[.int .u16 (hi (mulv (val x y) (val z u))), .int .u16 (lo (mulv (val x y) (val z u)))]) ∧ Below w.heap.size w w' := by
  have k0 := val_lo x y
  have k1 := val_hi x y
  have k2 := val_lo z u
  have k3 := val_hi z u
  obtain ⟨p0, p1⟩ := fmul_bd (val x y) (val z u) k0 k1 k2 k3
  obtain ⟨m0, m1⟩ := mulv_size (val x y) (val z u) k0 k1 k2 k3
  have em : rnd (val x y * val z u) 268435456 = mulv (val x y) (val z u) := rfl
  go_enter Tryd.func32, Tryd.ntmps32
  go_wp2_with fail
  have hecr1 := @Ext.cell
  refine wp_region_ext_tail 7 (by kernel_rfl) (by kernel_rfl) ?_
  simp only [List.take_succ_cons, List.take_zero, List.drop_succ_cons, List.drop_zero]
  repeat (first | go_big_quiet_skip | (go_big_quiet_want; go_big_quiet_op; first | go_big_quiet_on | (go_big_quiet_call ((first | fail | (go_at_call 37; exact ext_call (value_any _ _ (by assumption) (by assumption) (by assumption) (by assumption) _)) | (go_at_call 63; exact ext_call (fquot_any _ _ (by omega) (by omega) (by omega) (by omega) _)) | (go_at_call 62; exact ext_call (exactly_in _ (by assumption) (by assumption) _)))))))
  clear hecr1
  refine wpQuiet_nil ?_
  rintro r1 ⟨⟨_, hbr1⟩, rfl⟩
  obtain ⟨hcr1, hfr1⟩ := bcell hbr1
  have hzr1 := hbr1.size
  try simp only [World.size_alloc, World.size_setCell, World.size_drew] at hzr1
  have hlr1w0 : w.heap.size < r1.heap.size := by omega
  have hlr1w1 : w.heap.size + 1 < r1.heap.size := by omega
  have hlr1w2 : w.heap.size + 1 + 1 < r1.heap.size := by omega
  go_wp2
  refine bodyPost_ret (v := (.agg #[.int .u16 (hi (mulv (val x y) (val z u))), .int .u16 (lo (mulv (val x y) (val z u)))])) (by simp [results, Tryd.results32, go_sem, *]) rfl ⟨rfl, ?_⟩; exact (by repeat' (first | (with_reducible exact Below.refl _ _) | (with_reducible refine bl_set ?_ _ ?_) | (with_reducible refine bl_alloc ?_ _) | (with_reducible refine bl_drew ?_) | (with_reducible refine bl_via (by with_reducible assumption) ?_) | (with_reducible assumption) | omega | (simp only []; omega) | (simp; omega)))
end Go.Proofs.YtbbhppjamighdaaDoor
