/- The walk of the law VectorSums: for every input it returns true. -/
import Derived.Test.YtkgpdpengfdhbaaWb
import Derived.Test.YtkgpdpengfdhbaaWc
import Derived.Test.YtkgpdpengfdhbaaVb
import Derived.Test.YtkgpdpengfdhbaaVg
import Derived.Test.YtkgpdpengfdhbaaVh
import Derived.Test.YtkgpdpengfdhbaaVi
namespace Go.Proofs.Ytkgpdpengfdhbaa
set_option linter.unusedSimpArgs false
set_option linter.unusedVariables false
open Go.RowKit

theorem sums_facts (a b c d e f a' b' c' d' e' f' kx ky n : Int) (ha0 : 0 ≤ a) (ha1 : a < 65536) (hb0 : 0 ≤ b) (hb1 : b < 65536) (hc0 : 0 ≤ c) (hc1 : c < 65536) (hd0 : 0 ≤ d) (hd1 : d < 65536) (he0 : 0 ≤ e) (he1 : e < 65536) (hf0 : 0 ≤ f) (hf1 : f < 65536) (ha'0 : 0 ≤ a') (ha'1 : a' < 65536) (hb'0 : 0 ≤ b') (hb'1 : b' < 65536) (hc'0 : 0 ≤ c') (hc'1 : c' < 65536) (hd'0 : 0 ≤ d') (hd'1 : d' < 65536) (he'0 : 0 ≤ e') (he'1 : e' < 65536) (hf'0 : 0 ≤ f') (hf'1 : f' < 65536) (hkx0 : 0 ≤ kx) (hkx1 : kx < 65536) (hky0 : 0 ≤ ky) (hky1 : ky < 65536) (hn0 : -9223372036854775808 ≤ n) (hn1 : n ≤ 9223372036854775807) : ∃ (c0 c1 c2 c3 c4 c5 d0 d1 d2 d3 d4 d5 e0 e1 e2 e3 e4 e5 m0 m1 m2 m3 m4 m5 u0 u1 u2 u3 u4 u5 : Int) (f1 g1 h1 o1 : Bool),
    (∀ w, Calls Try.prog 23 #[(.agg #[.int .u16 (a), .int .u16 (b), .int .u16 (c), .int .u16 (d), .int .u16 (e), .int .u16 (f)]), (.agg #[.int .u16 (a'), .int .u16 (b'), .int .u16 (c'), .int .u16 (d'), .int .u16 (e'), .int .u16 (f')])] w fun r w' => r = .returned (.tuple #[(.agg #[.int .u16 (c0), .int .u16 (c1), .int .u16 (c2), .int .u16 (c3), .int .u16 (c4), .int .u16 (c5)]), .bool f1]) ∧ Below w.heap.size w w') ∧
    (∀ w, Calls Try.prog 37 #[(.agg #[.int .u16 (a), .int .u16 (b), .int .u16 (c), .int .u16 (d), .int .u16 (e), .int .u16 (f)]), (.agg #[.int .u16 (a'), .int .u16 (b'), .int .u16 (c'), .int .u16 (d'), .int .u16 (e'), .int .u16 (f')]), .int .i64 1] w fun r w' => r = .returned (.tuple #[(.agg #[.int .u16 (c0), .int .u16 (c1), .int .u16 (c2), .int .u16 (c3), .int .u16 (c4), .int .u16 (c5)]), .bool f1]) ∧ Below w.heap.size w w') ∧
    (∀ w, Calls Try.prog 36 #[(.agg #[.int .u16 (a), .int .u16 (b), .int .u16 (c), .int .u16 (d), .int .u16 (e), .int .u16 (f)]), (.agg #[.int .u16 (a'), .int .u16 (b'), .int .u16 (c'), .int .u16 (d'), .int .u16 (e'), .int .u16 (f')])] w fun r w' => r = .returned (.tuple #[(.agg #[.int .u16 (d0), .int .u16 (d1), .int .u16 (d2), .int .u16 (d3), .int .u16 (d4), .int .u16 (d5)]), .bool g1]) ∧ Below w.heap.size w w') ∧
    (∀ w, Calls Try.prog 37 #[(.agg #[.int .u16 (a), .int .u16 (b), .int .u16 (c), .int .u16 (d), .int .u16 (e), .int .u16 (f)]), (.agg #[.int .u16 (a'), .int .u16 (b'), .int .u16 (c'), .int .u16 (d'), .int .u16 (e'), .int .u16 (f')]), .int .i64 (-1)] w fun r w' => r = .returned (.tuple #[(.agg #[.int .u16 (d0), .int .u16 (d1), .int .u16 (d2), .int .u16 (d3), .int .u16 (d4), .int .u16 (d5)]), .bool g1]) ∧ Below w.heap.size w w') ∧
    (∀ w, Calls Try.prog 35 #[(.agg #[.int .u16 (a), .int .u16 (b), .int .u16 (c), .int .u16 (d), .int .u16 (e), .int .u16 (f)]), .int .i64 n] w fun r w' => r = .returned (.tuple #[(.agg #[.int .u16 (e0), .int .u16 (e1), .int .u16 (e2), .int .u16 (e3), .int .u16 (e4), .int .u16 (e5)]), .bool h1]) ∧ Below w.heap.size w w') ∧
    (∀ w, Calls Try.prog 38 #[(.agg #[.int .u16 (a), .int .u16 (b), .int .u16 (c), .int .u16 (d), .int .u16 (e), .int .u16 (f)]), .int .i64 n] w fun r w' => r = .returned (.tuple #[(.agg #[.int .u16 (e0), .int .u16 (e1), .int .u16 (e2), .int .u16 (e3), .int .u16 (e4), .int .u16 (e5)]), .bool h1]) ∧ Below w.heap.size w w') ∧
    (∀ w, Calls Try.prog 22 #[(.agg #[.int .u16 (a), .int .u16 (b), .int .u16 (c), .int .u16 (d), .int .u16 (e), .int .u16 (f)])] w fun r w' => r = .returned (.agg #[.int .u16 (m0), .int .u16 (m1), .int .u16 (m2), .int .u16 (m3), .int .u16 (m4), .int .u16 (m5)]) ∧ Below w.heap.size w w') ∧
    (∀ w, Calls Try.prog 37 #[(.agg #[.int .u16 (0), .int .u16 (0), .int .u16 (0), .int .u16 (0), .int .u16 (0), .int .u16 (0)]), (.agg #[.int .u16 (a), .int .u16 (b), .int .u16 (c), .int .u16 (d), .int .u16 (e), .int .u16 (f)]), .int .i64 (-1)] w fun r w' => r = .returned (.tuple #[(.agg #[.int .u16 (m0), .int .u16 (m1), .int .u16 (m2), .int .u16 (m3), .int .u16 (m4), .int .u16 (m5)]), .bool o1]) ∧ Below w.heap.size w w') ∧
    (∀ w, Calls Try.prog 39 #[(.agg #[.int .u16 (a), .int .u16 (b), .int .u16 (c), .int .u16 (d), .int .u16 (e), .int .u16 (f)]), (.agg #[.int .u16 (kx), .int .u16 (ky)])] w fun r w' => r = .returned (.agg #[.int .u16 (u0), .int .u16 (u1), .int .u16 (u2), .int .u16 (u3), .int .u16 (u4), .int .u16 (u5)]) ∧ Below w.heap.size w w') ∧
    (∀ w, Calls Try.prog 40 #[(.agg #[.int .u16 (a), .int .u16 (b), .int .u16 (c), .int .u16 (d), .int .u16 (e), .int .u16 (f)]), (.agg #[.int .u16 (kx), .int .u16 (ky)])] w fun r w' => r = .returned (.agg #[.int .u16 (u0), .int .u16 (u1), .int .u16 (u2), .int .u16 (u3), .int .u16 (u4), .int .u16 (u5)]) ∧ Below w.heap.size w w') := by
  have z : val 0 0 = 0 := by decide +kernel
  have s0 : sat (val 0 0 - val a b) 268435455 = -val a b := by rw [z, Int.zero_sub]; have := val_lo a b; have := val_hi a b; exact sat_in _ _ (by omega) (by omega)
  have s1 : sat (val 0 0 - val c d) 268435455 = -val c d := by rw [z, Int.zero_sub]; have := val_lo c d; have := val_hi c d; exact sat_in _ _ (by omega) (by omega)
  have s2 : sat (val 0 0 - val e f) 268435455 = -val e f := by rw [z, Int.zero_sub]; have := val_lo e f; have := val_hi e f; exact sat_in _ _ (by omega) (by omega)
  have k := fun w => rsum_m 0 0 0 0 0 0 a b c d e f (by omega) (by omega) (by omega) (by omega) (by omega) (by omega) (by omega) (by omega) (by omega) (by omega) (by omega) (by omega) ha0 ha1 hb0 hb1 hc0 hc1 hd0 hd1 he0 he1 hf0 hf1 w
  rw [s0, s1, s2] at k
  exact ⟨_, _, _, _, _, _, _, _, _, _, _, _, _, _, _, _, _, _, _, _, _, _, _, _, _, _, _, _, _, _, _, _, _, _, fun w => vadd_any a b c d e f a' b' c' d' e' f' ha0 ha1 hb0 hb1 hc0 hc1 hd0 hd1 he0 he1 hf0 hf1 ha'0 ha'1 hb'0 hb'1 hc'0 hc'1 hd'0 hd'1 he'0 he'1 hf'0 hf'1 w, fun w => rsum_p a b c d e f a' b' c' d' e' f' ha0 ha1 hb0 hb1 hc0 hc1 hd0 hd1 he0 he1 hf0 hf1 ha'0 ha'1 hb'0 hb'1 hc'0 hc'1 hd'0 hd'1 he'0 he'1 hf'0 hf'1 w, fun w => vsub_any a b c d e f a' b' c' d' e' f' ha0 ha1 hb0 hb1 hc0 hc1 hd0 hd1 he0 he1 hf0 hf1 ha'0 ha'1 hb'0 hb'1 hc'0 hc'1 hd'0 hd'1 he'0 he'1 hf'0 hf'1 w, fun w => rsum_m a b c d e f a' b' c' d' e' f' ha0 ha1 hb0 hb1 hc0 hc1 hd0 hd1 he0 he1 hf0 hf1 ha'0 ha'1 hb'0 hb'1 hc'0 hc'1 hd'0 hd'1 he'0 he'1 hf'0 hf'1 w,
    fun w => vshift_any a b c d e f n ha0 ha1 hb0 hb1 hc0 hc1 hd0 hd1 he0 he1 hf0 hf1 hn0 hn1 w, fun w => rshift17_any a b c d e f n ha0 ha1 hb0 hb1 hc0 hc1 hd0 hd1 he0 he1 hf0 hf1 hn1 w, fun w => vneg_any a b c d e f ha0 ha1 hb0 hb1 hc0 hc1 hd0 hd1 he0 he1 hf0 hf1 w, k,
    fun w => vscale_any a b c d e f kx ky ha0 ha1 hb0 hb1 hc0 hc1 hd0 hd1 he0 he1 hf0 hf1 hkx0 hkx1 hky0 hky1 w, fun w => rscale_any a b c d e f kx ky ha0 ha1 hb0 hb1 hc0 hc1 hd0 hd1 he0 he1 hf0 hf1 hkx0 hkx1 hky0 hky1 w⟩

set_option maxRecDepth 100000 in
set_option maxHeartbeats 4000000 in
theorem sums_law (a b c d e f a' b' c' d' e' f' kx ky n : Int) (ha0 : 0 ≤ a) (ha1 : a < 65536) (hb0 : 0 ≤ b) (hb1 : b < 65536) (hc0 : 0 ≤ c) (hc1 : c < 65536) (hd0 : 0 ≤ d) (hd1 : d < 65536) (he0 : 0 ≤ e) (he1 : e < 65536) (hf0 : 0 ≤ f) (hf1 : f < 65536) (ha'0 : 0 ≤ a') (ha'1 : a' < 65536) (hb'0 : 0 ≤ b') (hb'1 : b' < 65536) (hc'0 : 0 ≤ c') (hc'1 : c' < 65536) (hd'0 : 0 ≤ d') (hd'1 : d' < 65536) (he'0 : 0 ≤ e') (he'1 : e' < 65536) (hf'0 : 0 ≤ f') (hf'1 : f' < 65536) (hkx0 : 0 ≤ kx) (hkx1 : kx < 65536) (hky0 : 0 ≤ ky) (hky1 : ky < 65536) (hn0 : -9223372036854775808 ≤ n) (hn1 : n ≤ 9223372036854775807) (w : World) :
    Calls Try.prog 10 #[(.agg #[.int .u16 (a), .int .u16 (b), .int .u16 (c), .int .u16 (d), .int .u16 (e), .int .u16 (f)]), (.agg #[.int .u16 (a'), .int .u16 (b'), .int .u16 (c'), .int .u16 (d'), .int .u16 (e'), .int .u16 (f')]), (.agg #[.int .u16 (kx), .int .u16 (ky)]), .int .i64 n] w fun r w' => r = .returned (.bool true) ∧ Below w.heap.size w w' := by
  obtain ⟨c0, c1, c2, c3, c4, c5, d0, d1, d2, d3, d4, d5, e0, e1, e2, e3, e4, e5, m0, m1, m2, m3, m4, m5, u0, u1, u2, u3, u4, u5, f1, g1, h1, o1, D1, D2, D3, D4, D5, D6, D7, D8, D9, D10⟩ := sums_facts a b c d e f a' b' c' d' e' f' kx ky n ha0 ha1 hb0 hb1 hc0 hc1 hd0 hd1 he0 he1 hf0 hf1 ha'0 ha'1 hb'0 hb'1 hc'0 hc'1 hd'0 hd'1 he'0 he'1 hf'0 hf'1 hkx0 hkx1 hky0 hky1 hn0 hn1
  have hev := @eq_vec
  go_enter Try.func10, Try.ntmps10
  go_wp2_with fail
  refine (lives_any _).mono ?_
  rintro _ r1 ⟨rfl, hbr1⟩
  obtain ⟨hcr1, hfr1⟩ := bcell hbr1
  have hzr1 := hbr1.size
  try simp only [World.size_alloc, World.size_setCell, World.size_drew] at hzr1
  have hlr1w0 : w.heap.size < r1.heap.size := by omega
  have hlr1w1 : w.heap.size + 1 < r1.heap.size := by omega
  have hlr1w2 : w.heap.size + 1 + 1 < r1.heap.size := by omega
  go_wp2_with fail
  refine (D1 _).mono ?_
  rintro _ r2 ⟨rfl, hbr2⟩
  obtain ⟨hcr2, hfr2⟩ := bcell hbr2
  have hzr2 := hbr2.size
  try simp only [World.size_alloc, World.size_setCell, World.size_drew] at hzr2
  have hlr2w0 : w.heap.size < r2.heap.size := by omega
  have hlr2w1 : w.heap.size + 1 < r2.heap.size := by omega
  have hlr2w2 : w.heap.size + 1 + 1 < r2.heap.size := by omega
  go_wp2_with fail
  refine (D3 _).mono ?_
  rintro _ r3 ⟨rfl, hbr3⟩
  obtain ⟨hcr3, hfr3⟩ := bcell hbr3
  have hzr3 := hbr3.size
  try simp only [World.size_alloc, World.size_setCell, World.size_drew] at hzr3
  have hlr3w0 : w.heap.size < r3.heap.size := by omega
  have hlr3w1 : w.heap.size + 1 < r3.heap.size := by omega
  have hlr3w2 : w.heap.size + 1 + 1 < r3.heap.size := by omega
  have hlr3r20 : r2.heap.size < r3.heap.size := by omega
  go_wp2_with fail
  refine (D5 _).mono ?_
  rintro _ r4 ⟨rfl, hbr4⟩
  obtain ⟨hcr4, hfr4⟩ := bcell hbr4
  have hzr4 := hbr4.size
  try simp only [World.size_alloc, World.size_setCell, World.size_drew] at hzr4
  have hlr4w0 : w.heap.size < r4.heap.size := by omega
  have hlr4w1 : w.heap.size + 1 < r4.heap.size := by omega
  have hlr4w2 : w.heap.size + 1 + 1 < r4.heap.size := by omega
  have hlr4r20 : r2.heap.size < r4.heap.size := by omega
  have hlr4r30 : r3.heap.size < r4.heap.size := by omega
  go_wp2_with fail
  refine (D2 _).mono ?_
  rintro _ r5 ⟨rfl, hbr5⟩
  obtain ⟨hcr5, hfr5⟩ := bcell hbr5
  have hzr5 := hbr5.size
  try simp only [World.size_alloc, World.size_setCell, World.size_drew] at hzr5
  have hlr5w0 : w.heap.size < r5.heap.size := by omega
  have hlr5w1 : w.heap.size + 1 < r5.heap.size := by omega
  have hlr5w2 : w.heap.size + 1 + 1 < r5.heap.size := by omega
  have hlr5r20 : r2.heap.size < r5.heap.size := by omega
  have hlr5r30 : r3.heap.size < r5.heap.size := by omega
  have hlr5r40 : r4.heap.size < r5.heap.size := by omega
  go_wp2_with fail
  refine (D4 _).mono ?_
  rintro _ r6 ⟨rfl, hbr6⟩
  obtain ⟨hcr6, hfr6⟩ := bcell hbr6
  have hzr6 := hbr6.size
  try simp only [World.size_alloc, World.size_setCell, World.size_drew] at hzr6
  have hlr6w0 : w.heap.size < r6.heap.size := by omega
  have hlr6w1 : w.heap.size + 1 < r6.heap.size := by omega
  have hlr6w2 : w.heap.size + 1 + 1 < r6.heap.size := by omega
  have hlr6r20 : r2.heap.size < r6.heap.size := by omega
  have hlr6r30 : r3.heap.size < r6.heap.size := by omega
  have hlr6r40 : r4.heap.size < r6.heap.size := by omega
  have hlr6r50 : r5.heap.size < r6.heap.size := by omega
  go_wp2_with fail
  refine (D6 _).mono ?_
  rintro _ r7 ⟨rfl, hbr7⟩
  obtain ⟨hcr7, hfr7⟩ := bcell hbr7
  have hzr7 := hbr7.size
  try simp only [World.size_alloc, World.size_setCell, World.size_drew] at hzr7
  have hlr7w0 : w.heap.size < r7.heap.size := by omega
  have hlr7w1 : w.heap.size + 1 < r7.heap.size := by omega
  have hlr7w2 : w.heap.size + 1 + 1 < r7.heap.size := by omega
  have hlr7r20 : r2.heap.size < r7.heap.size := by omega
  have hlr7r30 : r3.heap.size < r7.heap.size := by omega
  have hlr7r40 : r4.heap.size < r7.heap.size := by omega
  have hlr7r50 : r5.heap.size < r7.heap.size := by omega
  have hlr7r60 : r6.heap.size < r7.heap.size := by omega
  go_wp2_with fail
  refine (D8 _).mono ?_
  rintro _ r8 ⟨rfl, hbr8⟩
  obtain ⟨hcr8, hfr8⟩ := bcell hbr8
  have hzr8 := hbr8.size
  try simp only [World.size_alloc, World.size_setCell, World.size_drew] at hzr8
  have hlr8w0 : w.heap.size < r8.heap.size := by omega
  have hlr8w1 : w.heap.size + 1 < r8.heap.size := by omega
  have hlr8w2 : w.heap.size + 1 + 1 < r8.heap.size := by omega
  have hlr8r20 : r2.heap.size < r8.heap.size := by omega
  have hlr8r30 : r3.heap.size < r8.heap.size := by omega
  have hlr8r40 : r4.heap.size < r8.heap.size := by omega
  have hlr8r50 : r5.heap.size < r8.heap.size := by omega
  have hlr8r60 : r6.heap.size < r8.heap.size := by omega
  have hlr8r70 : r7.heap.size < r8.heap.size := by omega
  go_wp2_with fail
  have hecr9 := @Ext.cell
  refine wp_region_ext (by kernel_rfl) (by kernel_rfl) ?_
  repeat (first | go_big_quiet_skip | (go_big_quiet_want; go_big_quiet_op; first | go_big_quiet_on | (go_big_quiet_call ((first | fail | (go_at_call 22; exact ext_call (D7 _)) | (go_at_call 39; exact ext_call (D9 _)) | (go_at_call 40; exact ext_call (D10 _)))))))
  clear hecr9
  refine wpQuiet_nil ?_
  rintro r9 ⟨⟨_, hbr9⟩, rfl⟩
  obtain ⟨hcr9, hfr9⟩ := bcell hbr9
  have hzr9 := hbr9.size
  try simp only [World.size_alloc, World.size_setCell, World.size_drew] at hzr9
  have hlr9w0 : w.heap.size < r9.heap.size := by omega
  have hlr9w1 : w.heap.size + 1 < r9.heap.size := by omega
  have hlr9w2 : w.heap.size + 1 + 1 < r9.heap.size := by omega
  have hlr9r20 : r2.heap.size < r9.heap.size := by omega
  have hlr9r30 : r3.heap.size < r9.heap.size := by omega
  have hlr9r40 : r4.heap.size < r9.heap.size := by omega
  have hlr9r50 : r5.heap.size < r9.heap.size := by omega
  have hlr9r60 : r6.heap.size < r9.heap.size := by omega
  have hlr9r70 : r7.heap.size < r9.heap.size := by omega
  have hlr9r80 : r8.heap.size < r9.heap.size := by omega
  go_wp2
  go_ret
  exact ⟨rfl, (by repeat' (first | (with_reducible exact Below.refl _ _) | (with_reducible refine bl_set ?_ _ ?_) | (with_reducible refine bl_alloc ?_ _) | (with_reducible refine bl_drew ?_) | (with_reducible refine bl_via (by with_reducible assumption) ?_) | (with_reducible assumption) | omega | (simp only []; omega) | (simp; omega)))⟩
end Go.Proofs.Ytkgpdpengfdhbaa
