/- Contracts of package vector over this translation: values, rounded, Dot, Cross. -/
import Derived.Test.YtpmocegfiniafaaDa
import Derived.Test.YtpmocegfiniafaaKd
import Derived.Test.YtpmocegfiniafaaPc
namespace Go.Proofs.Ytpmocegfiniafaa
set_option linter.unusedSimpArgs false
set_option linter.unusedVariables false
open Go.RowKit

set_option maxHeartbeats 400000 in
theorem vquot_pos (p q : Int) (h0 : 0 ≤ p) (h1 : p ≤ 4611686018427387904) (g0 : 1 ≤ q) (g1 : q ≤ 4611686018427387904) (w : World) :
    Calls Try.prog 67 #[.int .i64 p, .int .i64 q] w fun e w' => e = .returned (.int .i64 (rnd p q)) ∧ Below w.heap.size w w' := by
  have k0 : 0 ≤ p % q := Int.emod_nonneg p (by omega)
  have k1 : p % q < q := Int.emod_lt_of_pos p (by omega)
  have k2 : 0 ≤ p / q := Int.ediv_nonneg h0 (by omega)
  have k3 : p / q ≤ p := by have := Int.ediv_le_self q h0; omega
  by_cases c : q - p % q ≤ p % q
  · have e : rnd p q = p / q + 1 := by unfold rnd rndN; rw [if_neg (by omega), if_pos c]
    rw [e]; clear e
    go_enter Try.func67, Try.ntmps67
    go_wp2_with fail
    have hecr1 := @Ext.cell
    refine wp_region_ext (by kernel_rfl) (by kernel_rfl) ?_
    repeat (first | go_big_quiet_skip | (go_big_quiet_want; go_big_quiet_op; first | go_big_quiet_on | (go_big_quiet_call ((first | fail | fail)))))
    clear hecr1
    refine wpQuiet_nil ?_
    rintro r1 ⟨⟨_, hbr1⟩, rfl⟩
    obtain ⟨hcr1, hfr1⟩ := bcell hbr1
    have hzr1 := hbr1.size
    try simp only [World.size_alloc, World.size_setCell, World.size_drew] at hzr1
    go_wp2
    go_ret
    exact ⟨rfl, (by repeat' (first | (with_reducible exact Below.refl _ _) | (with_reducible refine bl_set ?_ _ ?_) | (with_reducible refine bl_alloc ?_ _) | (with_reducible refine bl_drew ?_) | (with_reducible refine bl_via (by with_reducible assumption) ?_) | (with_reducible assumption) | omega | (simp only []; omega) | (simp; omega)))⟩
  · have e : rnd p q = p / q := by unfold rnd rndN; rw [if_neg (by omega), if_neg c]
    rw [e]; clear e
    go_enter Try.func67, Try.ntmps67
    go_wp2_with fail
    have hecr1 := @Ext.cell
    refine wp_region_ext (by kernel_rfl) (by kernel_rfl) ?_
    repeat (first | go_big_quiet_skip | (go_big_quiet_want; go_big_quiet_op; first | go_big_quiet_on | (go_big_quiet_call ((first | fail | fail)))))
    clear hecr1
    refine wpQuiet_nil ?_
    rintro r1 ⟨⟨_, hbr1⟩, rfl⟩
    obtain ⟨hcr1, hfr1⟩ := bcell hbr1
    have hzr1 := hbr1.size
    try simp only [World.size_alloc, World.size_setCell, World.size_drew] at hzr1
    go_wp2
    go_ret
    exact ⟨rfl, (by repeat' (first | (with_reducible exact Below.refl _ _) | (with_reducible refine bl_set ?_ _ ?_) | (with_reducible refine bl_alloc ?_ _) | (with_reducible refine bl_drew ?_) | (with_reducible refine bl_via (by with_reducible assumption) ?_) | (with_reducible assumption) | omega | (simp only []; omega) | (simp; omega)))⟩

set_option maxHeartbeats 400000 in
theorem vquot_neg (p q : Int) (h0 : -4611686018427387904 ≤ p) (h1 : p < 0) (g0 : 1 ≤ q) (g1 : q ≤ 4611686018427387904) (w : World) :
    Calls Try.prog 67 #[.int .i64 p, .int .i64 q] w fun e w' => e = .returned (.int .i64 (rnd p q)) ∧ Below w.heap.size w w' := by
  have e1 : rnd p q = -rnd (-p) q := by have := rnd_neg p q (by omega); omega
  have b := rnd_size (-p) q 4611686018427387904 g0 (by omega) (by omega) (by omega)
  obtain ⟨b0, b1⟩ := b
  rw [e1]; clear e1
  go_enter Try.func67, Try.ntmps67
  go_wp2_with fail
  refine (vquot_pos (-p) q (by omega) (by omega) g0 g1 _).mono ?_
  rintro _ r1 ⟨rfl, hbr1⟩
  obtain ⟨hcr1, hfr1⟩ := bcell hbr1
  have hzr1 := hbr1.size
  try simp only [World.size_alloc, World.size_setCell, World.size_drew] at hzr1
  go_wp2
  go_ret
  exact ⟨rfl, (by repeat' (first | (with_reducible exact Below.refl _ _) | (with_reducible refine bl_set ?_ _ ?_) | (with_reducible refine bl_alloc ?_ _) | (with_reducible refine bl_drew ?_) | (with_reducible refine bl_via (by with_reducible assumption) ?_) | (with_reducible assumption) | omega | (simp only []; omega) | (simp; omega)))⟩

theorem vquot_any (p q : Int) (h0 : -4611686018427387904 ≤ p) (h1 : p ≤ 4611686018427387904) (g0 : 1 ≤ q) (g1 : q ≤ 4611686018427387904) (w : World) :
    Calls Try.prog 67 #[.int .i64 p, .int .i64 q] w fun e w' => e = .returned (.int .i64 (rnd p q)) ∧ Below w.heap.size w w' := by
  by_cases h : p < 0
  · exact vquot_neg p q h0 h g0 g1 w
  · exact vquot_pos p q (by omega) h1 g0 g1 w

set_option maxHeartbeats 400000 in
theorem values_any (a b c d e f : Int) (ha0 : 0 ≤ a) (ha1 : a < 65536) (hb0 : 0 ≤ b) (hb1 : b < 65536) (hc0 : 0 ≤ c) (hc1 : c < 65536) (hd0 : 0 ≤ d) (hd1 : d < 65536) (he0 : 0 ≤ e) (he1 : e < 65536) (hf0 : 0 ≤ f) (hf1 : f < 65536) (w : World) :
    Calls Try.prog 63 #[(.agg #[.int .u16 (a), .int .u16 (b), .int .u16 (c), .int .u16 (d), .int .u16 (e), .int .u16 (f)])] w fun r w' => r = .returned (.agg #[.int .i64 (val a b), .int .i64 (val c d), .int .i64 (val e f)]) ∧ Below w.heap.size w w' := by
  go_enter Try.func63, Try.ntmps63
  go_wp2_with fail
  have hecr1 := @Ext.cell
  refine wp_region_ext_tail 10 (by kernel_rfl) (by kernel_rfl) ?_
  simp only [List.take_succ_cons, List.take_zero, List.drop_succ_cons, List.drop_zero]
  repeat (first | go_big_quiet_skip | (go_big_quiet_want; go_big_quiet_op; first | go_big_quiet_on | (go_big_quiet_call ((first | fail | (go_at_call 29; exact ext_call (value_any _ _ (by assumption) (by assumption) (by assumption) (by assumption) _)))))))
  clear hecr1
  refine wpQuiet_nil ?_
  rintro r1 ⟨⟨_, hbr1⟩, rfl⟩
  obtain ⟨hcr1, hfr1⟩ := bcell hbr1
  have hzr1 := hbr1.size
  try simp only [World.size_alloc, World.size_setCell, World.size_drew] at hzr1
  have hlr1w0 : w.heap.size < r1.heap.size := by omega
  have hlr1w1 : w.heap.size + 1 < r1.heap.size := by omega
  go_wp2
  refine bodyPost_ret (v := (.agg #[.int .i64 (val a b), .int .i64 (val c d), .int .i64 (val e f)])) (by simp [results, Try.results63, go_sem, *]) rfl ⟨rfl, ?_⟩; exact (by repeat' (first | (with_reducible exact Below.refl _ _) | (with_reducible refine bl_set ?_ _ ?_) | (with_reducible refine bl_alloc ?_ _) | (with_reducible refine bl_drew ?_) | (with_reducible refine bl_via (by with_reducible assumption) ?_) | (with_reducible assumption) | omega | (simp only []; omega) | (simp; omega)))

end Go.Proofs.Ytpmocegfiniafaa
