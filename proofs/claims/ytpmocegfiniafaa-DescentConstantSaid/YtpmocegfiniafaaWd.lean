/- Contract of periluneref16.Div over this translation. -/
import Derived.Test.YtpmocegfiniafaaFd
import Derived.Test.YtpmocegfiniafaaRa
namespace Go.Proofs.Ytpmocegfiniafaa
set_option linter.unusedSimpArgs false
set_option linter.unusedVariables false
open Go.RowKit

theorem rsize16 (v : Int) (h0 : -268435455 ≤ v) (h1 : v ≤ 268435455) (w : World) :
    Calls Try.prog 76 #[.int .i64 v] w fun e w' => e = .returned (.int .i64 (mag v)) ∧ w = w' := by
  have hm : max v (-v) = mag v := by unfold mag; split <;> omega
  clear hm
  go_enter Try.func76, Try.ntmps76
  go_wp2
  all_goals go_ret
  all_goals (refine ⟨ret_int ?_, rfl⟩; unfold mag; (try split) <;> omega)

theorem mag_sg (v : Int) : 0 ≤ mag v ∧ (0 ≤ v → mag v = v) ∧ (v < 0 → mag v = -v) := by unfold mag; split <;> omega
theorem dvv_same (v w : Int) (h : mag v < mag w) (hs : 0 ≤ v ∧ 0 ≤ w ∨ v ≤ 0 ∧ w < 0) : dvv v w = rnd (mag v * 268435456) (mag w) := by
  unfold dvv
  rw [if_pos h]
  have a := mag_sg v
  rcases hs with ⟨p, q⟩ | ⟨p, q⟩
  · rw [if_neg (by omega), a.2.1 p]
  · rw [if_pos q, show -v = mag v by omega]
theorem dvv_diff (v w : Int) (h : mag v < mag w) (hs : v < 0 ∧ 0 ≤ w ∨ 0 ≤ v ∧ w < 0) : dvv v w = -rnd (mag v * 268435456) (mag w) := by
  have hw : 1 ≤ mag w := by have := (mag_sg v).1; omega
  rw [← rnd_neg _ _ (by omega)]
  unfold dvv
  rw [if_pos h]
  have a := mag_sg v
  rcases hs with ⟨p, q⟩ | ⟨p, q⟩
  · rw [if_neg (by omega), a.2.2 p, Int.neg_mul, Int.neg_neg]
  · rw [if_pos q, a.2.1 p, Int.neg_mul]

set_option maxHeartbeats 2000000 in
theorem rdiv_any (x y z u : Int) (hx0 : 0 ≤ x) (hx1 : x < 65536) (hy0 : 0 ≤ y) (hy1 : y < 65536) (hz0 : 0 ≤ z) (hz1 : z < 65536) (hu0 : 0 ≤ u) (hu1 : u < 65536) (w : World) :
    Calls Try.prog 60 #[(.agg #[.int .u16 (x), .int .u16 (y)]), (.agg #[.int .u16 (z), .int .u16 (u)])] w fun e w' => e = .returned (.tuple #[(.agg #[.int .u16 (hi (dvv (val x y) (val z u))), .int .u16 (lo (dvv (val x y) (val z u)))]), .bool (dvo (val x y) (val z u))]) ∧ Below w.heap.size w w' := by
  have k0 := val_lo x y
  have k1 := val_hi x y
  have k2 := val_lo z u
  have k3 := val_hi z u
  obtain ⟨a0, a1, a2⟩ := mag_sg (val x y)
  obtain ⟨b0, b1, b2⟩ := mag_sg (val z u)
  have ds := dvv_size (val x y) (val z u) k2 k3
  have ax : mag (val x y) ≤ 268435455 := by unfold mag; split <;> omega
  have bx : mag (val z u) ≤ 268435455 := by unfold mag; split <;> omega
  by_cases hm : mag (val x y) < mag (val z u)
  · have ho : dvo (val x y) (val z u) = false := decide_eq_false (by omega)
    rw [ho]; clear ho
    rcases (show (0 < val x y ∧ 0 < val z u) ∨ (val x y < 0 ∧ val z u < 0) ∨ (val x y < 0 ∧ 0 < val z u) ∨ (0 < val x y ∧ val z u < 0) ∨ val x y = 0 by omega) with ⟨p, q⟩ | ⟨p, q⟩ | ⟨p, q⟩ | ⟨p, q⟩ | p
    · have hv := dvv_same (val x y) (val z u) hm (by omega)
      rw [hv] at ds ⊢; clear hv a1 a2 b1 b2
      go_enter Try.func60, Try.ntmps60
      go_wp2_with fail
      have hecr1 := @Ext.cell
      refine wp_region_ext (by kernel_rfl) (by kernel_rfl) ?_
      repeat (first | go_big_quiet_skip | (go_big_quiet_want; go_big_quiet_op; first | go_big_quiet_on | (go_big_quiet_call ((first | fail | (go_at_call 12; exact ext_call (rvalue_any _ _ (by assumption) (by assumption) (by assumption) (by assumption) _)))))))
      clear hecr1
      refine wpQuiet_nil ?_
      rintro r1 ⟨⟨_, hbr1⟩, rfl⟩
      obtain ⟨hcr1, hfr1⟩ := bcell hbr1
      have hzr1 := hbr1.size
      try simp only [World.size_alloc, World.size_setCell, World.size_drew] at hzr1
      have hlr1w0 : w.heap.size < r1.heap.size := by omega
      have hlr1w1 : w.heap.size + 1 < r1.heap.size := by omega
      have hlr1w2 : w.heap.size + 1 + 1 < r1.heap.size := by omega
      go_wp2_with fail
      refine (rsize16 (val x y) k0 k1 _).mono ?_
      rintro _ _ ⟨rfl, rfl⟩
      go_wp2_with fail
      refine (rsize16 (val z u) k2 k3 _).mono ?_
      rintro _ _ ⟨rfl, rfl⟩
      go_wp2_with fail
      refine (rsize16 (val x y) k0 k1 _).mono ?_
      rintro _ _ ⟨rfl, rfl⟩
      go_wp2_with fail
      refine (rsize16 (val z u) k2 k3 _).mono ?_
      rintro _ _ ⟨rfl, rfl⟩
      go_wp2_with fail
      refine (rround_any (mag (val x y) * 268435456) (mag (val z u)) (by omega) (by omega) (by omega) (by omega) _).mono ?_
      rintro _ r2 ⟨rfl, hbr2⟩
      obtain ⟨hcr2, hfr2⟩ := bcell hbr2
      have hzr2 := hbr2.size
      try simp only [World.size_alloc, World.size_setCell, World.size_drew] at hzr2
      have hlr2w0 : w.heap.size < r2.heap.size := by omega
      have hlr2w1 : w.heap.size + 1 < r2.heap.size := by omega
      have hlr2w2 : w.heap.size + 1 + 1 < r2.heap.size := by omega
      go_wp2_with fail
      refine (rdouble_any (rnd (mag (val x y) * 268435456) (mag (val z u))) (by omega) (by omega) _).mono ?_
      rintro _ r3 ⟨rfl, hbr3⟩
      obtain ⟨hcr3, hfr3⟩ := bcell hbr3
      have hzr3 := hbr3.size
      try simp only [World.size_alloc, World.size_setCell, World.size_drew] at hzr3
      have hlr3w0 : w.heap.size < r3.heap.size := by omega
      have hlr3w1 : w.heap.size + 1 < r3.heap.size := by omega
      have hlr3w2 : w.heap.size + 1 + 1 < r3.heap.size := by omega
      go_wp2
      refine bodyPost_ret (v := .tuple #[(.agg #[.int .u16 (hi (rnd (mag (val x y) * 268435456) (mag (val z u)))), .int .u16 (lo (rnd (mag (val x y) * 268435456) (mag (val z u))))]), .bool false]) (by simp [results, Try.results60, go_sem, *]) rfl ⟨rfl, ?_⟩; exact (by repeat' (first | (with_reducible exact Below.refl _ _) | (with_reducible refine bl_set ?_ _ ?_) | (with_reducible refine bl_alloc ?_ _) | (with_reducible refine bl_drew ?_) | (with_reducible refine bl_via (by with_reducible assumption) ?_) | (with_reducible assumption) | omega | (simp only []; omega) | (simp; omega)))
    · have hv := dvv_same (val x y) (val z u) hm (by omega)
      rw [hv] at ds ⊢; clear hv a1 a2 b1 b2
      go_enter Try.func60, Try.ntmps60
      go_wp2_with fail
      have hecr1 := @Ext.cell
      refine wp_region_ext (by kernel_rfl) (by kernel_rfl) ?_
      repeat (first | go_big_quiet_skip | (go_big_quiet_want; go_big_quiet_op; first | go_big_quiet_on | (go_big_quiet_call ((first | fail | (go_at_call 12; exact ext_call (rvalue_any _ _ (by assumption) (by assumption) (by assumption) (by assumption) _)))))))
      clear hecr1
      refine wpQuiet_nil ?_
      rintro r1 ⟨⟨_, hbr1⟩, rfl⟩
      obtain ⟨hcr1, hfr1⟩ := bcell hbr1
      have hzr1 := hbr1.size
      try simp only [World.size_alloc, World.size_setCell, World.size_drew] at hzr1
      have hlr1w0 : w.heap.size < r1.heap.size := by omega
      have hlr1w1 : w.heap.size + 1 < r1.heap.size := by omega
      have hlr1w2 : w.heap.size + 1 + 1 < r1.heap.size := by omega
      go_wp2_with fail
      refine (rsize16 (val x y) k0 k1 _).mono ?_
      rintro _ _ ⟨rfl, rfl⟩
      go_wp2_with fail
      refine (rsize16 (val z u) k2 k3 _).mono ?_
      rintro _ _ ⟨rfl, rfl⟩
      go_wp2_with fail
      refine (rsize16 (val x y) k0 k1 _).mono ?_
      rintro _ _ ⟨rfl, rfl⟩
      go_wp2_with fail
      refine (rsize16 (val z u) k2 k3 _).mono ?_
      rintro _ _ ⟨rfl, rfl⟩
      go_wp2_with fail
      refine (rround_any (mag (val x y) * 268435456) (mag (val z u)) (by omega) (by omega) (by omega) (by omega) _).mono ?_
      rintro _ r2 ⟨rfl, hbr2⟩
      obtain ⟨hcr2, hfr2⟩ := bcell hbr2
      have hzr2 := hbr2.size
      try simp only [World.size_alloc, World.size_setCell, World.size_drew] at hzr2
      have hlr2w0 : w.heap.size < r2.heap.size := by omega
      have hlr2w1 : w.heap.size + 1 < r2.heap.size := by omega
      have hlr2w2 : w.heap.size + 1 + 1 < r2.heap.size := by omega
      go_wp2_with fail
      refine (rdouble_any (rnd (mag (val x y) * 268435456) (mag (val z u))) (by omega) (by omega) _).mono ?_
      rintro _ r3 ⟨rfl, hbr3⟩
      obtain ⟨hcr3, hfr3⟩ := bcell hbr3
      have hzr3 := hbr3.size
      try simp only [World.size_alloc, World.size_setCell, World.size_drew] at hzr3
      have hlr3w0 : w.heap.size < r3.heap.size := by omega
      have hlr3w1 : w.heap.size + 1 < r3.heap.size := by omega
      have hlr3w2 : w.heap.size + 1 + 1 < r3.heap.size := by omega
      go_wp2
      refine bodyPost_ret (v := .tuple #[(.agg #[.int .u16 (hi (rnd (mag (val x y) * 268435456) (mag (val z u)))), .int .u16 (lo (rnd (mag (val x y) * 268435456) (mag (val z u))))]), .bool false]) (by simp [results, Try.results60, go_sem, *]) rfl ⟨rfl, ?_⟩; exact (by repeat' (first | (with_reducible exact Below.refl _ _) | (with_reducible refine bl_set ?_ _ ?_) | (with_reducible refine bl_alloc ?_ _) | (with_reducible refine bl_drew ?_) | (with_reducible refine bl_via (by with_reducible assumption) ?_) | (with_reducible assumption) | omega | (simp only []; omega) | (simp; omega)))
    · have hv := dvv_diff (val x y) (val z u) hm (by omega)
      rw [hv] at ds ⊢; clear hv a1 a2 b1 b2
      go_enter Try.func60, Try.ntmps60
      go_wp2_with fail
      have hecr1 := @Ext.cell
      refine wp_region_ext (by kernel_rfl) (by kernel_rfl) ?_
      repeat (first | go_big_quiet_skip | (go_big_quiet_want; go_big_quiet_op; first | go_big_quiet_on | (go_big_quiet_call ((first | fail | (go_at_call 12; exact ext_call (rvalue_any _ _ (by assumption) (by assumption) (by assumption) (by assumption) _)))))))
      clear hecr1
      refine wpQuiet_nil ?_
      rintro r1 ⟨⟨_, hbr1⟩, rfl⟩
      obtain ⟨hcr1, hfr1⟩ := bcell hbr1
      have hzr1 := hbr1.size
      try simp only [World.size_alloc, World.size_setCell, World.size_drew] at hzr1
      have hlr1w0 : w.heap.size < r1.heap.size := by omega
      have hlr1w1 : w.heap.size + 1 < r1.heap.size := by omega
      have hlr1w2 : w.heap.size + 1 + 1 < r1.heap.size := by omega
      go_wp2_with fail
      refine (rsize16 (val x y) k0 k1 _).mono ?_
      rintro _ _ ⟨rfl, rfl⟩
      go_wp2_with fail
      refine (rsize16 (val z u) k2 k3 _).mono ?_
      rintro _ _ ⟨rfl, rfl⟩
      go_wp2_with fail
      refine (rsize16 (val x y) k0 k1 _).mono ?_
      rintro _ _ ⟨rfl, rfl⟩
      go_wp2_with fail
      refine (rsize16 (val z u) k2 k3 _).mono ?_
      rintro _ _ ⟨rfl, rfl⟩
      go_wp2_with fail
      refine (rround_any (mag (val x y) * 268435456) (mag (val z u)) (by omega) (by omega) (by omega) (by omega) _).mono ?_
      rintro _ r2 ⟨rfl, hbr2⟩
      obtain ⟨hcr2, hfr2⟩ := bcell hbr2
      have hzr2 := hbr2.size
      try simp only [World.size_alloc, World.size_setCell, World.size_drew] at hzr2
      have hlr2w0 : w.heap.size < r2.heap.size := by omega
      have hlr2w1 : w.heap.size + 1 < r2.heap.size := by omega
      have hlr2w2 : w.heap.size + 1 + 1 < r2.heap.size := by omega
      go_wp2_with fail
      refine (rdouble_any (-(rnd (mag (val x y) * 268435456) (mag (val z u)))) (by omega) (by omega) _).mono ?_
      rintro _ r3 ⟨rfl, hbr3⟩
      obtain ⟨hcr3, hfr3⟩ := bcell hbr3
      have hzr3 := hbr3.size
      try simp only [World.size_alloc, World.size_setCell, World.size_drew] at hzr3
      have hlr3w0 : w.heap.size < r3.heap.size := by omega
      have hlr3w1 : w.heap.size + 1 < r3.heap.size := by omega
      have hlr3w2 : w.heap.size + 1 + 1 < r3.heap.size := by omega
      go_wp2
      refine bodyPost_ret (v := .tuple #[(.agg #[.int .u16 (hi (-(rnd (mag (val x y) * 268435456) (mag (val z u))))), .int .u16 (lo (-(rnd (mag (val x y) * 268435456) (mag (val z u)))))]), .bool false]) (by simp [results, Try.results60, go_sem, *]) rfl ⟨rfl, ?_⟩; exact (by repeat' (first | (with_reducible exact Below.refl _ _) | (with_reducible refine bl_set ?_ _ ?_) | (with_reducible refine bl_alloc ?_ _) | (with_reducible refine bl_drew ?_) | (with_reducible refine bl_via (by with_reducible assumption) ?_) | (with_reducible assumption) | omega | (simp only []; omega) | (simp; omega)))
    · have hv := dvv_diff (val x y) (val z u) hm (by omega)
      rw [hv] at ds ⊢; clear hv a1 a2 b1 b2
      go_enter Try.func60, Try.ntmps60
      go_wp2_with fail
      have hecr1 := @Ext.cell
      refine wp_region_ext (by kernel_rfl) (by kernel_rfl) ?_
      repeat (first | go_big_quiet_skip | (go_big_quiet_want; go_big_quiet_op; first | go_big_quiet_on | (go_big_quiet_call ((first | fail | (go_at_call 12; exact ext_call (rvalue_any _ _ (by assumption) (by assumption) (by assumption) (by assumption) _)))))))
      clear hecr1
      refine wpQuiet_nil ?_
      rintro r1 ⟨⟨_, hbr1⟩, rfl⟩
      obtain ⟨hcr1, hfr1⟩ := bcell hbr1
      have hzr1 := hbr1.size
      try simp only [World.size_alloc, World.size_setCell, World.size_drew] at hzr1
      have hlr1w0 : w.heap.size < r1.heap.size := by omega
      have hlr1w1 : w.heap.size + 1 < r1.heap.size := by omega
      have hlr1w2 : w.heap.size + 1 + 1 < r1.heap.size := by omega
      go_wp2_with fail
      refine (rsize16 (val x y) k0 k1 _).mono ?_
      rintro _ _ ⟨rfl, rfl⟩
      go_wp2_with fail
      refine (rsize16 (val z u) k2 k3 _).mono ?_
      rintro _ _ ⟨rfl, rfl⟩
      go_wp2_with fail
      refine (rsize16 (val x y) k0 k1 _).mono ?_
      rintro _ _ ⟨rfl, rfl⟩
      go_wp2_with fail
      refine (rsize16 (val z u) k2 k3 _).mono ?_
      rintro _ _ ⟨rfl, rfl⟩
      go_wp2_with fail
      refine (rround_any (mag (val x y) * 268435456) (mag (val z u)) (by omega) (by omega) (by omega) (by omega) _).mono ?_
      rintro _ r2 ⟨rfl, hbr2⟩
      obtain ⟨hcr2, hfr2⟩ := bcell hbr2
      have hzr2 := hbr2.size
      try simp only [World.size_alloc, World.size_setCell, World.size_drew] at hzr2
      have hlr2w0 : w.heap.size < r2.heap.size := by omega
      have hlr2w1 : w.heap.size + 1 < r2.heap.size := by omega
      have hlr2w2 : w.heap.size + 1 + 1 < r2.heap.size := by omega
      go_wp2_with fail
      refine (rdouble_any (-(rnd (mag (val x y) * 268435456) (mag (val z u)))) (by omega) (by omega) _).mono ?_
      rintro _ r3 ⟨rfl, hbr3⟩
      obtain ⟨hcr3, hfr3⟩ := bcell hbr3
      have hzr3 := hbr3.size
      try simp only [World.size_alloc, World.size_setCell, World.size_drew] at hzr3
      have hlr3w0 : w.heap.size < r3.heap.size := by omega
      have hlr3w1 : w.heap.size + 1 < r3.heap.size := by omega
      have hlr3w2 : w.heap.size + 1 + 1 < r3.heap.size := by omega
      go_wp2
      refine bodyPost_ret (v := .tuple #[(.agg #[.int .u16 (hi (-(rnd (mag (val x y) * 268435456) (mag (val z u))))), .int .u16 (lo (-(rnd (mag (val x y) * 268435456) (mag (val z u)))))]), .bool false]) (by simp [results, Try.results60, go_sem, *]) rfl ⟨rfl, ?_⟩; exact (by repeat' (first | (with_reducible exact Below.refl _ _) | (with_reducible refine bl_set ?_ _ ?_) | (with_reducible refine bl_alloc ?_ _) | (with_reducible refine bl_drew ?_) | (with_reducible refine bl_via (by with_reducible assumption) ?_) | (with_reducible assumption) | omega | (simp only []; omega) | (simp; omega)))
    · have hv : dvv (val x y) (val z u) = rnd (mag (val x y) * 268435456) (mag (val z u)) := by
        by_cases hw : val z u < 0
        · exact dvv_same _ _ hm (by omega)
        · exact dvv_same _ _ hm (by omega)
      rw [hv] at ds ⊢
      have p1 : ¬ val x y < 0 := by omega
      have p2 : ¬ 0 < val x y := by omega
      clear hv a1 a2 b1 b2 p
      go_enter Try.func60, Try.ntmps60
      go_wp2_with fail
      have hecr1 := @Ext.cell
      refine wp_region_ext (by kernel_rfl) (by kernel_rfl) ?_
      repeat (first | go_big_quiet_skip | (go_big_quiet_want; go_big_quiet_op; first | go_big_quiet_on | (go_big_quiet_call ((first | fail | (go_at_call 12; exact ext_call (rvalue_any _ _ (by assumption) (by assumption) (by assumption) (by assumption) _)))))))
      clear hecr1
      refine wpQuiet_nil ?_
      rintro r1 ⟨⟨_, hbr1⟩, rfl⟩
      obtain ⟨hcr1, hfr1⟩ := bcell hbr1
      have hzr1 := hbr1.size
      try simp only [World.size_alloc, World.size_setCell, World.size_drew] at hzr1
      have hlr1w0 : w.heap.size < r1.heap.size := by omega
      have hlr1w1 : w.heap.size + 1 < r1.heap.size := by omega
      have hlr1w2 : w.heap.size + 1 + 1 < r1.heap.size := by omega
      go_wp2_with fail
      refine (rsize16 (val x y) k0 k1 _).mono ?_
      rintro _ _ ⟨rfl, rfl⟩
      go_wp2_with fail
      refine (rsize16 (val z u) k2 k3 _).mono ?_
      rintro _ _ ⟨rfl, rfl⟩
      go_wp2_with fail
      refine (rsize16 (val x y) k0 k1 _).mono ?_
      rintro _ _ ⟨rfl, rfl⟩
      go_wp2_with fail
      refine (rsize16 (val z u) k2 k3 _).mono ?_
      rintro _ _ ⟨rfl, rfl⟩
      go_wp2_with fail
      refine (rround_any (mag (val x y) * 268435456) (mag (val z u)) (by omega) (by omega) (by omega) (by omega) _).mono ?_
      rintro _ r2 ⟨rfl, hbr2⟩
      obtain ⟨hcr2, hfr2⟩ := bcell hbr2
      have hzr2 := hbr2.size
      try simp only [World.size_alloc, World.size_setCell, World.size_drew] at hzr2
      have hlr2w0 : w.heap.size < r2.heap.size := by omega
      have hlr2w1 : w.heap.size + 1 < r2.heap.size := by omega
      have hlr2w2 : w.heap.size + 1 + 1 < r2.heap.size := by omega
      go_wp2_with fail
      refine (rdouble_any (rnd (mag (val x y) * 268435456) (mag (val z u))) (by omega) (by omega) _).mono ?_
      rintro _ r3 ⟨rfl, hbr3⟩
      obtain ⟨hcr3, hfr3⟩ := bcell hbr3
      have hzr3 := hbr3.size
      try simp only [World.size_alloc, World.size_setCell, World.size_drew] at hzr3
      have hlr3w0 : w.heap.size < r3.heap.size := by omega
      have hlr3w1 : w.heap.size + 1 < r3.heap.size := by omega
      have hlr3w2 : w.heap.size + 1 + 1 < r3.heap.size := by omega
      go_wp2
      refine bodyPost_ret (v := .tuple #[(.agg #[.int .u16 (hi (rnd (mag (val x y) * 268435456) (mag (val z u)))), .int .u16 (lo (rnd (mag (val x y) * 268435456) (mag (val z u))))]), .bool false]) (by simp [results, Try.results60, go_sem, *]) rfl ⟨rfl, ?_⟩; exact (by repeat' (first | (with_reducible exact Below.refl _ _) | (with_reducible refine bl_set ?_ _ ?_) | (with_reducible refine bl_alloc ?_ _) | (with_reducible refine bl_drew ?_) | (with_reducible refine bl_via (by with_reducible assumption) ?_) | (with_reducible assumption) | omega | (simp only []; omega) | (simp; omega)))
  · have ho : dvo (val x y) (val z u) = true := decide_eq_true hm
    rw [ho]; clear ho
    rcases (show val x y = 0 ∨ (val x y < 0 ∧ 0 ≤ val z u) ∨ (0 < val x y ∧ val z u < 0) ∨ (val x y < 0 ∧ val z u < 0) ∨ (0 < val x y ∧ 0 ≤ val z u) by omega) with p | ⟨p, q⟩ | ⟨p, q⟩ | ⟨p, q⟩ | ⟨p, q⟩
    · have hv : dvv (val x y) (val z u) = 0 := by unfold dvv; rw [if_neg hm, if_pos p]
      have d0 : hi 0 = 0 := by decide +kernel
      have d1 : lo 0 = 0 := by decide +kernel
      have c4 : (val x y == 0) = true := by rw [p]; rfl
      rw [hv, d0, d1]; clear hv p d0 d1 a1 a2 b1 b2 ds
      go_enter Try.func60, Try.ntmps60
      go_wp2_with fail
      have hecr1 := @Ext.cell
      refine wp_region_ext (by kernel_rfl) (by kernel_rfl) ?_
      repeat (first | go_big_quiet_skip | (go_big_quiet_want; go_big_quiet_op; first | go_big_quiet_on | (go_big_quiet_call ((first | fail | (go_at_call 12; exact ext_call (rvalue_any _ _ (by assumption) (by assumption) (by assumption) (by assumption) _)))))))
      clear hecr1
      refine wpQuiet_nil ?_
      rintro r1 ⟨⟨_, hbr1⟩, rfl⟩
      obtain ⟨hcr1, hfr1⟩ := bcell hbr1
      have hzr1 := hbr1.size
      try simp only [World.size_alloc, World.size_setCell, World.size_drew] at hzr1
      have hlr1w0 : w.heap.size < r1.heap.size := by omega
      have hlr1w1 : w.heap.size + 1 < r1.heap.size := by omega
      have hlr1w2 : w.heap.size + 1 + 1 < r1.heap.size := by omega
      go_wp2_with fail
      refine (rsize16 (val x y) k0 k1 _).mono ?_
      rintro _ _ ⟨rfl, rfl⟩
      go_wp2_with fail
      refine (rsize16 (val z u) k2 k3 _).mono ?_
      rintro _ _ ⟨rfl, rfl⟩
      go_wp2
      refine bodyPost_ret (v := .tuple #[(.agg #[.int .u16 (0), .int .u16 (0)]), .bool true]) (by simp [results, Try.results60, go_sem, *]) rfl ⟨rfl, ?_⟩; exact (by repeat' (first | (with_reducible exact Below.refl _ _) | (with_reducible refine bl_set ?_ _ ?_) | (with_reducible refine bl_alloc ?_ _) | (with_reducible refine bl_drew ?_) | (with_reducible refine bl_via (by with_reducible assumption) ?_) | (with_reducible assumption) | omega | (simp only []; omega) | (simp; omega)))
    · have hv : dvv (val x y) (val z u) = -268435455 := by unfold dvv; rw [if_neg hm, if_neg (by omega)]; (repeat' split) <;> omega
      rw [hv]; clear hv a1 a2 b1 b2 ds
      go_enter Try.func60, Try.ntmps60
      go_wp2_with fail
      have hecr1 := @Ext.cell
      refine wp_region_ext (by kernel_rfl) (by kernel_rfl) ?_
      repeat (first | go_big_quiet_skip | (go_big_quiet_want; go_big_quiet_op; first | go_big_quiet_on | (go_big_quiet_call ((first | fail | (go_at_call 12; exact ext_call (rvalue_any _ _ (by assumption) (by assumption) (by assumption) (by assumption) _)))))))
      clear hecr1
      refine wpQuiet_nil ?_
      rintro r1 ⟨⟨_, hbr1⟩, rfl⟩
      obtain ⟨hcr1, hfr1⟩ := bcell hbr1
      have hzr1 := hbr1.size
      try simp only [World.size_alloc, World.size_setCell, World.size_drew] at hzr1
      have hlr1w0 : w.heap.size < r1.heap.size := by omega
      have hlr1w1 : w.heap.size + 1 < r1.heap.size := by omega
      have hlr1w2 : w.heap.size + 1 + 1 < r1.heap.size := by omega
      go_wp2_with fail
      refine (rsize16 (val x y) k0 k1 _).mono ?_
      rintro _ _ ⟨rfl, rfl⟩
      go_wp2_with fail
      refine (rsize16 (val z u) k2 k3 _).mono ?_
      rintro _ _ ⟨rfl, rfl⟩
      go_wp2_with fail
      refine (rdouble_any (-268435455) (by omega) (by omega) _).mono ?_
      rintro _ r3 ⟨rfl, hbr3⟩
      obtain ⟨hcr3, hfr3⟩ := bcell hbr3
      have hzr3 := hbr3.size
      try simp only [World.size_alloc, World.size_setCell, World.size_drew] at hzr3
      have hlr3w0 : w.heap.size < r3.heap.size := by omega
      have hlr3w1 : w.heap.size + 1 < r3.heap.size := by omega
      have hlr3w2 : w.heap.size + 1 + 1 < r3.heap.size := by omega
      go_wp2
      refine bodyPost_ret (v := .tuple #[(.agg #[.int .u16 (hi (-268435455)), .int .u16 (lo (-268435455))]), .bool true]) (by simp [results, Try.results60, go_sem, *]) rfl ⟨rfl, ?_⟩; exact (by repeat' (first | (with_reducible exact Below.refl _ _) | (with_reducible refine bl_set ?_ _ ?_) | (with_reducible refine bl_alloc ?_ _) | (with_reducible refine bl_drew ?_) | (with_reducible refine bl_via (by with_reducible assumption) ?_) | (with_reducible assumption) | omega | (simp only []; omega) | (simp; omega)))
    · have hv : dvv (val x y) (val z u) = -268435455 := by unfold dvv; rw [if_neg hm, if_neg (by omega)]; (repeat' split) <;> omega
      rw [hv]; clear hv a1 a2 b1 b2 ds
      go_enter Try.func60, Try.ntmps60
      go_wp2_with fail
      have hecr1 := @Ext.cell
      refine wp_region_ext (by kernel_rfl) (by kernel_rfl) ?_
      repeat (first | go_big_quiet_skip | (go_big_quiet_want; go_big_quiet_op; first | go_big_quiet_on | (go_big_quiet_call ((first | fail | (go_at_call 12; exact ext_call (rvalue_any _ _ (by assumption) (by assumption) (by assumption) (by assumption) _)))))))
      clear hecr1
      refine wpQuiet_nil ?_
      rintro r1 ⟨⟨_, hbr1⟩, rfl⟩
      obtain ⟨hcr1, hfr1⟩ := bcell hbr1
      have hzr1 := hbr1.size
      try simp only [World.size_alloc, World.size_setCell, World.size_drew] at hzr1
      have hlr1w0 : w.heap.size < r1.heap.size := by omega
      have hlr1w1 : w.heap.size + 1 < r1.heap.size := by omega
      have hlr1w2 : w.heap.size + 1 + 1 < r1.heap.size := by omega
      go_wp2_with fail
      refine (rsize16 (val x y) k0 k1 _).mono ?_
      rintro _ _ ⟨rfl, rfl⟩
      go_wp2_with fail
      refine (rsize16 (val z u) k2 k3 _).mono ?_
      rintro _ _ ⟨rfl, rfl⟩
      go_wp2_with fail
      refine (rdouble_any (-268435455) (by omega) (by omega) _).mono ?_
      rintro _ r3 ⟨rfl, hbr3⟩
      obtain ⟨hcr3, hfr3⟩ := bcell hbr3
      have hzr3 := hbr3.size
      try simp only [World.size_alloc, World.size_setCell, World.size_drew] at hzr3
      have hlr3w0 : w.heap.size < r3.heap.size := by omega
      have hlr3w1 : w.heap.size + 1 < r3.heap.size := by omega
      have hlr3w2 : w.heap.size + 1 + 1 < r3.heap.size := by omega
      go_wp2
      refine bodyPost_ret (v := .tuple #[(.agg #[.int .u16 (hi (-268435455)), .int .u16 (lo (-268435455))]), .bool true]) (by simp [results, Try.results60, go_sem, *]) rfl ⟨rfl, ?_⟩; exact (by repeat' (first | (with_reducible exact Below.refl _ _) | (with_reducible refine bl_set ?_ _ ?_) | (with_reducible refine bl_alloc ?_ _) | (with_reducible refine bl_drew ?_) | (with_reducible refine bl_via (by with_reducible assumption) ?_) | (with_reducible assumption) | omega | (simp only []; omega) | (simp; omega)))
    · have hv : dvv (val x y) (val z u) = 268435455 := by unfold dvv; rw [if_neg hm, if_neg (by omega)]; (repeat' split) <;> omega
      rw [hv]; clear hv a1 a2 b1 b2 ds
      go_enter Try.func60, Try.ntmps60
      go_wp2_with fail
      have hecr1 := @Ext.cell
      refine wp_region_ext (by kernel_rfl) (by kernel_rfl) ?_
      repeat (first | go_big_quiet_skip | (go_big_quiet_want; go_big_quiet_op; first | go_big_quiet_on | (go_big_quiet_call ((first | fail | (go_at_call 12; exact ext_call (rvalue_any _ _ (by assumption) (by assumption) (by assumption) (by assumption) _)))))))
      clear hecr1
      refine wpQuiet_nil ?_
      rintro r1 ⟨⟨_, hbr1⟩, rfl⟩
      obtain ⟨hcr1, hfr1⟩ := bcell hbr1
      have hzr1 := hbr1.size
      try simp only [World.size_alloc, World.size_setCell, World.size_drew] at hzr1
      have hlr1w0 : w.heap.size < r1.heap.size := by omega
      have hlr1w1 : w.heap.size + 1 < r1.heap.size := by omega
      have hlr1w2 : w.heap.size + 1 + 1 < r1.heap.size := by omega
      go_wp2_with fail
      refine (rsize16 (val x y) k0 k1 _).mono ?_
      rintro _ _ ⟨rfl, rfl⟩
      go_wp2_with fail
      refine (rsize16 (val z u) k2 k3 _).mono ?_
      rintro _ _ ⟨rfl, rfl⟩
      go_wp2_with fail
      refine (rdouble_any 268435455 (by omega) (by omega) _).mono ?_
      rintro _ r3 ⟨rfl, hbr3⟩
      obtain ⟨hcr3, hfr3⟩ := bcell hbr3
      have hzr3 := hbr3.size
      try simp only [World.size_alloc, World.size_setCell, World.size_drew] at hzr3
      have hlr3w0 : w.heap.size < r3.heap.size := by omega
      have hlr3w1 : w.heap.size + 1 < r3.heap.size := by omega
      have hlr3w2 : w.heap.size + 1 + 1 < r3.heap.size := by omega
      go_wp2
      refine bodyPost_ret (v := .tuple #[(.agg #[.int .u16 (hi (268435455)), .int .u16 (lo (268435455))]), .bool true]) (by simp [results, Try.results60, go_sem, *]) rfl ⟨rfl, ?_⟩; exact (by repeat' (first | (with_reducible exact Below.refl _ _) | (with_reducible refine bl_set ?_ _ ?_) | (with_reducible refine bl_alloc ?_ _) | (with_reducible refine bl_drew ?_) | (with_reducible refine bl_via (by with_reducible assumption) ?_) | (with_reducible assumption) | omega | (simp only []; omega) | (simp; omega)))
    · have hv : dvv (val x y) (val z u) = 268435455 := by unfold dvv; rw [if_neg hm, if_neg (by omega)]; (repeat' split) <;> omega
      rw [hv]; clear hv a1 a2 b1 b2 ds
      go_enter Try.func60, Try.ntmps60
      go_wp2_with fail
      have hecr1 := @Ext.cell
      refine wp_region_ext (by kernel_rfl) (by kernel_rfl) ?_
      repeat (first | go_big_quiet_skip | (go_big_quiet_want; go_big_quiet_op; first | go_big_quiet_on | (go_big_quiet_call ((first | fail | (go_at_call 12; exact ext_call (rvalue_any _ _ (by assumption) (by assumption) (by assumption) (by assumption) _)))))))
      clear hecr1
      refine wpQuiet_nil ?_
      rintro r1 ⟨⟨_, hbr1⟩, rfl⟩
      obtain ⟨hcr1, hfr1⟩ := bcell hbr1
      have hzr1 := hbr1.size
      try simp only [World.size_alloc, World.size_setCell, World.size_drew] at hzr1
      have hlr1w0 : w.heap.size < r1.heap.size := by omega
      have hlr1w1 : w.heap.size + 1 < r1.heap.size := by omega
      have hlr1w2 : w.heap.size + 1 + 1 < r1.heap.size := by omega
      go_wp2_with fail
      refine (rsize16 (val x y) k0 k1 _).mono ?_
      rintro _ _ ⟨rfl, rfl⟩
      go_wp2_with fail
      refine (rsize16 (val z u) k2 k3 _).mono ?_
      rintro _ _ ⟨rfl, rfl⟩
      go_wp2_with fail
      refine (rdouble_any 268435455 (by omega) (by omega) _).mono ?_
      rintro _ r3 ⟨rfl, hbr3⟩
      obtain ⟨hcr3, hfr3⟩ := bcell hbr3
      have hzr3 := hbr3.size
      try simp only [World.size_alloc, World.size_setCell, World.size_drew] at hzr3
      have hlr3w0 : w.heap.size < r3.heap.size := by omega
      have hlr3w1 : w.heap.size + 1 < r3.heap.size := by omega
      have hlr3w2 : w.heap.size + 1 + 1 < r3.heap.size := by omega
      go_wp2
      refine bodyPost_ret (v := .tuple #[(.agg #[.int .u16 (hi (268435455)), .int .u16 (lo (268435455))]), .bool true]) (by simp [results, Try.results60, go_sem, *]) rfl ⟨rfl, ?_⟩; exact (by repeat' (first | (with_reducible exact Below.refl _ _) | (with_reducible refine bl_set ?_ _ ?_) | (with_reducible refine bl_alloc ?_ _) | (with_reducible refine bl_drew ?_) | (with_reducible refine bl_via (by with_reducible assumption) ?_) | (with_reducible assumption) | omega | (simp only []; omega) | (simp; omega)))
end Go.Proofs.Ytpmocegfiniafaa
