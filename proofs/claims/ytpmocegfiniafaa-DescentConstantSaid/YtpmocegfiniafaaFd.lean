/- Contract of fixed.Div over this translation. -/
import Derived.Test.YtpmocegfiniafaaFa
namespace Go.Proofs.Ytpmocegfiniafaa
set_option linter.unusedSimpArgs false
set_option linter.unusedVariables false
open Go.RowKit

/-- The rounded quotient of two fractions, saturated. -/
def dvv (v w : Int) : Int :=
  if mag v < mag w then rnd ((if w < 0 then -v else v) * 268435456) (mag w)
  else if v = 0 then 0 else if (if w < 0 then -v else v) < 0 then -268435455 else 268435455
/-- Is it out of range? -/
def dvo (v w : Int) : Bool := decide (¬ mag v < mag w)

theorem dv_size (v w : Int) (h0 : -268435455 ≤ w) (h1 : w ≤ 268435455) (h : mag v < mag w) :
    (1 ≤ mag w ∧ mag w ≤ 268435455) ∧ (-268435454 ≤ v ∧ v ≤ 268435454) ∧ -268435455 ≤ rnd (v * 268435456) (mag w) ∧ rnd (v * 268435456) (mag w) ≤ 268435455 := by
  have hw : 1 ≤ mag w ∧ mag w ≤ 268435455 := by unfold mag at *; split <;> split at h <;> omega
  have hv : -268435454 ≤ v ∧ v ≤ 268435454 ∧ -(mag w) < v ∧ v < mag w := by
    have : mag v = v ∨ mag v = -v := by unfold mag; split <;> omega
    have : v ≤ mag v ∧ -v ≤ mag v := by unfold mag; split <;> omega
    omega
  refine ⟨hw, ⟨hv.1, hv.2.1⟩, rnd_ge _ _ _ (by omega) ?_, rnd_le _ _ _ (by omega) ?_⟩
  · omega
  · omega
theorem dvv_size (v w : Int) (h0 : -268435455 ≤ w) (h1 : w ≤ 268435455) : -268435455 ≤ dvv v w ∧ dvv v w ≤ 268435455 := by
  unfold dvv
  split
  · rename_i h
    have := (dv_size v w h0 h1 h).2.2
    split
    · rw [Int.neg_mul, rnd_neg _ _ (by have := (dv_size v w h0 h1 h).1; omega)]; omega
    · omega
  · split
    · omega
    · split <;> omega

set_option maxHeartbeats 1000000 in
theorem div_any (x y z u : Int) (hx0 : 0 ≤ x) (hx1 : x < 65536) (hy0 : 0 ≤ y) (hy1 : y < 65536) (hz0 : 0 ≤ z) (hz1 : z < 65536) (hu0 : 0 ≤ u) (hu1 : u < 65536) (w : World) :
    Calls Try.prog 31 #[(.agg #[.int .u16 (x), .int .u16 (y)]), (.agg #[.int .u16 (z), .int .u16 (u)])] w fun e w' => e = .returned (.tuple #[(.agg #[.int .u16 (hi (dvv (val x y) (val z u))), .int .u16 (lo (dvv (val x y) (val z u)))]), .bool (dvo (val x y) (val z u))]) ∧ Below w.heap.size w w' := by
  have k0 := val_lo x y
  have k1 := val_hi x y
  have k2 := val_lo z u
  have k3 := val_hi z u
  by_cases hm : mag (val x y) < mag (val z u)
  · have hs := dv_size (val x y) (val z u) k2 k3 hm
    have ho : dvo (val x y) (val z u) = false := decide_eq_false (by omega)
    rw [ho]; clear ho
    by_cases hw : val z u < 0
    · have hm2 : mag (val z u) = -val z u := by unfold mag; rw [if_pos hw]
      have hv : dvv (val x y) (val z u) = rnd (-val x y * 268435456) (-val z u) := by unfold dvv; rw [if_pos hm, if_pos hw, hm2]
      rw [hm2] at hs hm
      have e2 : rnd (-val x y * 268435456) (-val z u) = -rnd (val x y * 268435456) (-val z u) := by rw [Int.neg_mul, rnd_neg _ _ (by omega)]
      have c0 : -268435455 ≤ rnd (-val x y * 268435456) (-val z u) := by omega
      have c1 : rnd (-val x y * 268435456) (-val z u) ≤ 268435455 := by omega
      have c2 : -val x y < -val z u := by unfold mag at hm; split at hm <;> omega
      have c3 : val x y < -val z u := by unfold mag at hm; split at hm <;> omega
      rw [hv]; clear hv e2 hm hm2
      go_enter Try.func31, Try.ntmps31
      go_wp2_with fail
      have hecr1 := @Ext.cell
      refine wp_region_ext (by kernel_rfl) (by kernel_rfl) ?_
      repeat (first | go_big_quiet_skip | (go_big_quiet_want; go_big_quiet_op; first | go_big_quiet_on | (go_big_quiet_call ((first | fail | (go_at_call 29; exact ext_call (value_any _ _ (by assumption) (by assumption) (by assumption) (by assumption) _)))))))
      clear hecr1
      refine wpQuiet_nil ?_
      rintro r1 ⟨⟨_, hbr1⟩, rfl⟩
      obtain ⟨hcr1, hfr1⟩ := bcell hbr1
      have hzr1 := hbr1.size
      try simp only [World.size_alloc, World.size_setCell, World.size_drew] at hzr1
      have hlr1w0 : w.heap.size < r1.heap.size := by omega
      have hlr1w1 : w.heap.size + 1 < r1.heap.size := by omega
      have hlr1w2 : w.heap.size + 1 + 1 < r1.heap.size := by omega
      go_wp2_with fail
      refine (fquot_any (-val x y * 268435456) (-val z u) (by omega) (by omega) (by omega) (by omega) _).mono ?_
      rintro _ r2 ⟨rfl, hbr2⟩
      obtain ⟨hcr2, hfr2⟩ := bcell hbr2
      have hzr2 := hbr2.size
      try simp only [World.size_alloc, World.size_setCell, World.size_drew] at hzr2
      have hlr2w0 : w.heap.size < r2.heap.size := by omega
      have hlr2w1 : w.heap.size + 1 < r2.heap.size := by omega
      have hlr2w2 : w.heap.size + 1 + 1 < r2.heap.size := by omega
      go_wp2_with fail
      refine (exactly_in (rnd (-val x y * 268435456) (-val z u)) c0 c1 _).mono ?_
      rintro _ r3 ⟨rfl, hbr3⟩
      obtain ⟨hcr3, hfr3⟩ := bcell hbr3
      have hzr3 := hbr3.size
      try simp only [World.size_alloc, World.size_setCell, World.size_drew] at hzr3
      have hlr3w0 : w.heap.size < r3.heap.size := by omega
      have hlr3w1 : w.heap.size + 1 < r3.heap.size := by omega
      have hlr3w2 : w.heap.size + 1 + 1 < r3.heap.size := by omega
      go_wp2
      refine bodyPost_ret (v := .tuple #[(.agg #[.int .u16 (hi (rnd (-val x y * 268435456) (-val z u))), .int .u16 (lo (rnd (-val x y * 268435456) (-val z u)))]), .bool false]) (by simp [results, Try.results31, go_sem, *]) rfl ⟨rfl, ?_⟩; exact (by repeat' (first | (with_reducible exact Below.refl _ _) | (with_reducible refine bl_set ?_ _ ?_) | (with_reducible refine bl_alloc ?_ _) | (with_reducible refine bl_drew ?_) | (with_reducible refine bl_via (by with_reducible assumption) ?_) | (with_reducible assumption) | omega | (simp only []; omega) | (simp; omega)))
    · have hm2 : mag (val z u) = val z u := by unfold mag; rw [if_neg hw]
      have hv : dvv (val x y) (val z u) = rnd (val x y * 268435456) (val z u) := by unfold dvv; rw [if_pos hm, if_neg hw, hm2]
      rw [hm2] at hs hm
      have c0 : -268435455 ≤ rnd (val x y * 268435456) (val z u) := by omega
      have c1 : rnd (val x y * 268435456) (val z u) ≤ 268435455 := by omega
      have c2 : val x y < val z u := by unfold mag at hm; split at hm <;> omega
      have c3 : -val x y < val z u := by unfold mag at hm; split at hm <;> omega
      rw [hv]; clear hv hm hm2
      go_enter Try.func31, Try.ntmps31
      go_wp2_with fail
      have hecr1 := @Ext.cell
      refine wp_region_ext (by kernel_rfl) (by kernel_rfl) ?_
      repeat (first | go_big_quiet_skip | (go_big_quiet_want; go_big_quiet_op; first | go_big_quiet_on | (go_big_quiet_call ((first | fail | (go_at_call 29; exact ext_call (value_any _ _ (by assumption) (by assumption) (by assumption) (by assumption) _)))))))
      clear hecr1
      refine wpQuiet_nil ?_
      rintro r1 ⟨⟨_, hbr1⟩, rfl⟩
      obtain ⟨hcr1, hfr1⟩ := bcell hbr1
      have hzr1 := hbr1.size
      try simp only [World.size_alloc, World.size_setCell, World.size_drew] at hzr1
      have hlr1w0 : w.heap.size < r1.heap.size := by omega
      have hlr1w1 : w.heap.size + 1 < r1.heap.size := by omega
      have hlr1w2 : w.heap.size + 1 + 1 < r1.heap.size := by omega
      go_wp2_with fail
      refine (fquot_any (val x y * 268435456) (val z u) (by omega) (by omega) (by omega) (by omega) _).mono ?_
      rintro _ r2 ⟨rfl, hbr2⟩
      obtain ⟨hcr2, hfr2⟩ := bcell hbr2
      have hzr2 := hbr2.size
      try simp only [World.size_alloc, World.size_setCell, World.size_drew] at hzr2
      have hlr2w0 : w.heap.size < r2.heap.size := by omega
      have hlr2w1 : w.heap.size + 1 < r2.heap.size := by omega
      have hlr2w2 : w.heap.size + 1 + 1 < r2.heap.size := by omega
      go_wp2_with fail
      refine (exactly_in (rnd (val x y * 268435456) (val z u)) c0 c1 _).mono ?_
      rintro _ r3 ⟨rfl, hbr3⟩
      obtain ⟨hcr3, hfr3⟩ := bcell hbr3
      have hzr3 := hbr3.size
      try simp only [World.size_alloc, World.size_setCell, World.size_drew] at hzr3
      have hlr3w0 : w.heap.size < r3.heap.size := by omega
      have hlr3w1 : w.heap.size + 1 < r3.heap.size := by omega
      have hlr3w2 : w.heap.size + 1 + 1 < r3.heap.size := by omega
      go_wp2
      refine bodyPost_ret (v := .tuple #[(.agg #[.int .u16 (hi (rnd (val x y * 268435456) (val z u))), .int .u16 (lo (rnd (val x y * 268435456) (val z u)))]), .bool false]) (by simp [results, Try.results31, go_sem, *]) rfl ⟨rfl, ?_⟩; exact (by repeat' (first | (with_reducible exact Below.refl _ _) | (with_reducible refine bl_set ?_ _ ?_) | (with_reducible refine bl_alloc ?_ _) | (with_reducible refine bl_drew ?_) | (with_reducible refine bl_via (by with_reducible assumption) ?_) | (with_reducible assumption) | omega | (simp only []; omega) | (simp; omega)))
  · have ho : dvo (val x y) (val z u) = true := decide_eq_true hm
    rw [ho]; clear ho
    by_cases hw : val z u < 0
    · have hn : ¬ (-val x y < -val z u ∧ val x y < -val z u) := by unfold mag at hm; (repeat' split at hm) <;> omega
      have hnz : ¬ val x y = 0 := by intro h; unfold mag at hm; (repeat' split at hm) <;> omega
      rcases (show -val x y < 0 ∨ 0 < -val x y by omega) with hp | hp
      · have hv : dvv (val x y) (val z u) = -268435455 := by unfold dvv; rw [if_neg hm, if_neg hnz, if_pos hw, if_pos hp]
        have c2 : -val x y < -val z u := by omega
        have c3 : ¬ val x y < -val z u := by omega
        rw [hv]; clear hv hm hn
        have es : sat (-268435456) 268435455 = -268435455 := by decide +kernel
        go_enter Try.func31, Try.ntmps31
        go_wp2_with fail
        have hecr1 := @Ext.cell
        refine wp_region_ext (by kernel_rfl) (by kernel_rfl) ?_
        repeat (first | go_big_quiet_skip | (go_big_quiet_want; go_big_quiet_op; first | go_big_quiet_on | (go_big_quiet_call ((first | fail | (go_at_call 29; exact ext_call (value_any _ _ (by assumption) (by assumption) (by assumption) (by assumption) _)))))))
        clear hecr1
        refine wpQuiet_nil ?_
        rintro r1 ⟨⟨_, hbr1⟩, rfl⟩
        obtain ⟨hcr1, hfr1⟩ := bcell hbr1
        have hzr1 := hbr1.size
        try simp only [World.size_alloc, World.size_setCell, World.size_drew] at hzr1
        have hlr1w0 : w.heap.size < r1.heap.size := by omega
        have hlr1w1 : w.heap.size + 1 < r1.heap.size := by omega
        have hlr1w2 : w.heap.size + 1 + 1 < r1.heap.size := by omega
        go_wp2_with fail
        refine (exactly_any (-268435456) _).mono ?_
        rintro _ r3 ⟨rfl, hbr3⟩
        obtain ⟨hcr3, hfr3⟩ := bcell hbr3
        have hzr3 := hbr3.size
        try simp only [World.size_alloc, World.size_setCell, World.size_drew] at hzr3
        have hlr3w0 : w.heap.size < r3.heap.size := by omega
        have hlr3w1 : w.heap.size + 1 < r3.heap.size := by omega
        have hlr3w2 : w.heap.size + 1 + 1 < r3.heap.size := by omega
        go_wp2
        refine bodyPost_ret (v := .tuple #[(.agg #[.int .u16 (hi (-268435455)), .int .u16 (lo (-268435455))]), .bool true]) (by simp [results, Try.results31, go_sem, *]) rfl ⟨rfl, ?_⟩; exact (by repeat' (first | (with_reducible exact Below.refl _ _) | (with_reducible refine bl_set ?_ _ ?_) | (with_reducible refine bl_alloc ?_ _) | (with_reducible refine bl_drew ?_) | (with_reducible refine bl_via (by with_reducible assumption) ?_) | (with_reducible assumption) | omega | (simp only []; omega) | (simp; omega)))
      · have hv : dvv (val x y) (val z u) = 268435455 := by unfold dvv; rw [if_neg hm, if_neg hnz, if_pos hw, if_neg (by omega)]
        have c2 : ¬ -val x y < -val z u := by omega
        rw [hv]; clear hv hm hn
        have es : sat 268435456 268435455 = 268435455 := by decide +kernel
        go_enter Try.func31, Try.ntmps31
        go_wp2_with fail
        have hecr1 := @Ext.cell
        refine wp_region_ext (by kernel_rfl) (by kernel_rfl) ?_
        repeat (first | go_big_quiet_skip | (go_big_quiet_want; go_big_quiet_op; first | go_big_quiet_on | (go_big_quiet_call ((first | fail | (go_at_call 29; exact ext_call (value_any _ _ (by assumption) (by assumption) (by assumption) (by assumption) _)))))))
        clear hecr1
        refine wpQuiet_nil ?_
        rintro r1 ⟨⟨_, hbr1⟩, rfl⟩
        obtain ⟨hcr1, hfr1⟩ := bcell hbr1
        have hzr1 := hbr1.size
        try simp only [World.size_alloc, World.size_setCell, World.size_drew] at hzr1
        have hlr1w0 : w.heap.size < r1.heap.size := by omega
        have hlr1w1 : w.heap.size + 1 < r1.heap.size := by omega
        have hlr1w2 : w.heap.size + 1 + 1 < r1.heap.size := by omega
        go_wp2_with fail
        refine (exactly_any 268435456 _).mono ?_
        rintro _ r3 ⟨rfl, hbr3⟩
        obtain ⟨hcr3, hfr3⟩ := bcell hbr3
        have hzr3 := hbr3.size
        try simp only [World.size_alloc, World.size_setCell, World.size_drew] at hzr3
        have hlr3w0 : w.heap.size < r3.heap.size := by omega
        have hlr3w1 : w.heap.size + 1 < r3.heap.size := by omega
        have hlr3w2 : w.heap.size + 1 + 1 < r3.heap.size := by omega
        go_wp2
        refine bodyPost_ret (v := .tuple #[(.agg #[.int .u16 (hi (268435455)), .int .u16 (lo (268435455))]), .bool true]) (by simp [results, Try.results31, go_sem, *]) rfl ⟨rfl, ?_⟩; exact (by repeat' (first | (with_reducible exact Below.refl _ _) | (with_reducible refine bl_set ?_ _ ?_) | (with_reducible refine bl_alloc ?_ _) | (with_reducible refine bl_drew ?_) | (with_reducible refine bl_via (by with_reducible assumption) ?_) | (with_reducible assumption) | omega | (simp only []; omega) | (simp; omega)))
    · have hn : ¬ (val x y < val z u ∧ -val x y < val z u) := by unfold mag at hm; (repeat' split at hm) <;> omega
      rcases (show val x y = 0 ∨ val x y < 0 ∨ 0 < val x y by omega) with hz | hp | hp
      · have hv : dvv (val x y) (val z u) = 0 := by unfold dvv; rw [if_neg hm, if_pos hz]
        have c2 : ¬ val x y < val z u := by omega
        have d0 : hi 0 = 0 := by decide +kernel
        have d1 : lo 0 = 0 := by decide +kernel
        have c4 : (val x y == 0) = true := by rw [hz]; rfl
        rw [hv, d0, d1]; clear hv hm hn hz d0 d1
        go_enter Try.func31, Try.ntmps31
        go_wp2_with fail
        have hecr1 := @Ext.cell
        refine wp_region_ext (by kernel_rfl) (by kernel_rfl) ?_
        repeat (first | go_big_quiet_skip | (go_big_quiet_want; go_big_quiet_op; first | go_big_quiet_on | (go_big_quiet_call ((first | fail | (go_at_call 29; exact ext_call (value_any _ _ (by assumption) (by assumption) (by assumption) (by assumption) _)))))))
        clear hecr1
        refine wpQuiet_nil ?_
        rintro r1 ⟨⟨_, hbr1⟩, rfl⟩
        obtain ⟨hcr1, hfr1⟩ := bcell hbr1
        have hzr1 := hbr1.size
        try simp only [World.size_alloc, World.size_setCell, World.size_drew] at hzr1
        have hlr1w0 : w.heap.size < r1.heap.size := by omega
        have hlr1w1 : w.heap.size + 1 < r1.heap.size := by omega
        have hlr1w2 : w.heap.size + 1 + 1 < r1.heap.size := by omega
        go_wp2
        refine bodyPost_ret (v := .tuple #[(.agg #[.int .u16 (0), .int .u16 (0)]), .bool true]) (by simp [results, Try.results31, go_sem, *]) rfl ⟨rfl, ?_⟩; exact (by repeat' (first | (with_reducible exact Below.refl _ _) | (with_reducible refine bl_set ?_ _ ?_) | (with_reducible refine bl_alloc ?_ _) | (with_reducible refine bl_drew ?_) | (with_reducible refine bl_via (by with_reducible assumption) ?_) | (with_reducible assumption) | omega | (simp only []; omega) | (simp; omega)))
      · have hv : dvv (val x y) (val z u) = -268435455 := by unfold dvv; rw [if_neg hm, if_neg (by omega), if_neg hw, if_pos hp]
        have c2 : val x y < val z u := by omega
        have c3 : ¬ -val x y < val z u := by omega
        rw [hv]; clear hv hm hn
        have es : sat (-268435456) 268435455 = -268435455 := by decide +kernel
        go_enter Try.func31, Try.ntmps31
        go_wp2_with fail
        have hecr1 := @Ext.cell
        refine wp_region_ext (by kernel_rfl) (by kernel_rfl) ?_
        repeat (first | go_big_quiet_skip | (go_big_quiet_want; go_big_quiet_op; first | go_big_quiet_on | (go_big_quiet_call ((first | fail | (go_at_call 29; exact ext_call (value_any _ _ (by assumption) (by assumption) (by assumption) (by assumption) _)))))))
        clear hecr1
        refine wpQuiet_nil ?_
        rintro r1 ⟨⟨_, hbr1⟩, rfl⟩
        obtain ⟨hcr1, hfr1⟩ := bcell hbr1
        have hzr1 := hbr1.size
        try simp only [World.size_alloc, World.size_setCell, World.size_drew] at hzr1
        have hlr1w0 : w.heap.size < r1.heap.size := by omega
        have hlr1w1 : w.heap.size + 1 < r1.heap.size := by omega
        have hlr1w2 : w.heap.size + 1 + 1 < r1.heap.size := by omega
        go_wp2_with fail
        refine (exactly_any (-268435456) _).mono ?_
        rintro _ r3 ⟨rfl, hbr3⟩
        obtain ⟨hcr3, hfr3⟩ := bcell hbr3
        have hzr3 := hbr3.size
        try simp only [World.size_alloc, World.size_setCell, World.size_drew] at hzr3
        have hlr3w0 : w.heap.size < r3.heap.size := by omega
        have hlr3w1 : w.heap.size + 1 < r3.heap.size := by omega
        have hlr3w2 : w.heap.size + 1 + 1 < r3.heap.size := by omega
        go_wp2
        refine bodyPost_ret (v := .tuple #[(.agg #[.int .u16 (hi (-268435455)), .int .u16 (lo (-268435455))]), .bool true]) (by simp [results, Try.results31, go_sem, *]) rfl ⟨rfl, ?_⟩; exact (by repeat' (first | (with_reducible exact Below.refl _ _) | (with_reducible refine bl_set ?_ _ ?_) | (with_reducible refine bl_alloc ?_ _) | (with_reducible refine bl_drew ?_) | (with_reducible refine bl_via (by with_reducible assumption) ?_) | (with_reducible assumption) | omega | (simp only []; omega) | (simp; omega)))
      · have hv : dvv (val x y) (val z u) = 268435455 := by unfold dvv; rw [if_neg hm, if_neg (by omega), if_neg hw, if_neg (by omega)]
        have c2 : ¬ val x y < val z u := by omega
        rw [hv]; clear hv hm hn
        have es : sat 268435456 268435455 = 268435455 := by decide +kernel
        go_enter Try.func31, Try.ntmps31
        go_wp2_with fail
        have hecr1 := @Ext.cell
        refine wp_region_ext (by kernel_rfl) (by kernel_rfl) ?_
        repeat (first | go_big_quiet_skip | (go_big_quiet_want; go_big_quiet_op; first | go_big_quiet_on | (go_big_quiet_call ((first | fail | (go_at_call 29; exact ext_call (value_any _ _ (by assumption) (by assumption) (by assumption) (by assumption) _)))))))
        clear hecr1
        refine wpQuiet_nil ?_
        rintro r1 ⟨⟨_, hbr1⟩, rfl⟩
        obtain ⟨hcr1, hfr1⟩ := bcell hbr1
        have hzr1 := hbr1.size
        try simp only [World.size_alloc, World.size_setCell, World.size_drew] at hzr1
        have hlr1w0 : w.heap.size < r1.heap.size := by omega
        have hlr1w1 : w.heap.size + 1 < r1.heap.size := by omega
        have hlr1w2 : w.heap.size + 1 + 1 < r1.heap.size := by omega
        go_wp2_with fail
        refine (exactly_any 268435456 _).mono ?_
        rintro _ r3 ⟨rfl, hbr3⟩
        obtain ⟨hcr3, hfr3⟩ := bcell hbr3
        have hzr3 := hbr3.size
        try simp only [World.size_alloc, World.size_setCell, World.size_drew] at hzr3
        have hlr3w0 : w.heap.size < r3.heap.size := by omega
        have hlr3w1 : w.heap.size + 1 < r3.heap.size := by omega
        have hlr3w2 : w.heap.size + 1 + 1 < r3.heap.size := by omega
        go_wp2
        refine bodyPost_ret (v := .tuple #[(.agg #[.int .u16 (hi (268435455)), .int .u16 (lo (268435455))]), .bool true]) (by simp [results, Try.results31, go_sem, *]) rfl ⟨rfl, ?_⟩; exact (by repeat' (first | (with_reducible exact Below.refl _ _) | (with_reducible refine bl_set ?_ _ ?_) | (with_reducible refine bl_alloc ?_ _) | (with_reducible refine bl_drew ?_) | (with_reducible refine bl_via (by with_reducible assumption) ?_) | (with_reducible assumption) | omega | (simp only []; omega) | (simp; omega)))
end Go.Proofs.Ytpmocegfiniafaa
