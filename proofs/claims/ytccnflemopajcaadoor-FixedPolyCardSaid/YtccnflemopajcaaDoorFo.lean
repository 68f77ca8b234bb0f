/- Contracts of Poly, of package fixed and of the reference, where there are no coefficients. -/
import Derived.Test.YtccnflemopajcaaDoorLsi
namespace Go.Proofs.YtccnflemopajcaaDoor
set_option linter.unusedSimpArgs false
set_option linter.unusedVariables false
open Go.RowKit

theorem poly_zero (x y : Int) (hx0 : 0 ≤ x) (hx1 : x < 65536) (hy0 : 0 ≤ y) (hy1 : y < 65536) (a : Option Addr) (cap : Nat) (w : World) : Calls Tryd.prog 26 #[(.agg #[.int .u16 (x), .int .u16 (y)]), .slice a 0 cap] w fun e w' => e = .returned (.tuple #[(.agg #[.int .u16 (0), .int .u16 (0)]), .bool false]) ∧ Below w.heap.size w w' := by
  go_enter Tryd.func26, Tryd.ntmps26
  go_wp2_with fail
  refine wp_loop_rounds 1 ?_
  rw [rounds_succ]
  go_wp2
  refine bodyPost_ret (v := (.tuple #[(.agg #[.int .u16 (0), .int .u16 (0)]), .bool false])) (by simp [results, Tryd.results26, go_sem, *]) rfl ⟨rfl, ?_⟩; exact (by repeat' (first | (with_reducible exact Below.refl _ _) | (with_reducible refine bl_set ?_ _ ?_) | (with_reducible refine bl_alloc ?_ _) | (with_reducible refine bl_drew ?_) | (with_reducible refine bl_via (by with_reducible assumption) ?_) | (with_reducible assumption) | omega | (simp only []; omega) | (simp; omega)))
theorem rpoly_zero (x y : Int) (hx0 : 0 ≤ x) (hx1 : x < 65536) (hy0 : 0 ≤ y) (hy1 : y < 65536) (a : Option Addr) (cap : Nat) (w : World) : Calls Tryd.prog 27 #[(.agg #[.int .u16 (x), .int .u16 (y)]), .slice a 0 cap] w fun e w' => e = .returned (.tuple #[(.agg #[.int .u16 (0), .int .u16 (0)]), .bool false]) ∧ Below w.heap.size w w' := by
  go_enter Tryd.func27, Tryd.ntmps27
  go_wp2_with fail
  refine wp_loop_rounds 1 ?_
  rw [rounds_succ]
  go_wp2
  refine bodyPost_ret (v := (.tuple #[(.agg #[.int .u16 (0), .int .u16 (0)]), .bool false])) (by simp [results, Tryd.results27, go_sem, *]) rfl ⟨rfl, ?_⟩; exact (by repeat' (first | (with_reducible exact Below.refl _ _) | (with_reducible refine bl_set ?_ _ ?_) | (with_reducible refine bl_alloc ?_ _) | (with_reducible refine bl_drew ?_) | (with_reducible refine bl_via (by with_reducible assumption) ?_) | (with_reducible assumption) | omega | (simp only []; omega) | (simp; omega)))
set_option maxHeartbeats 2000000 in
theorem poly_law_zero (x y : Int) (hx0 : 0 ≤ x) (hx1 : x < 65536) (hy0 : 0 ≤ y) (hy1 : y < 65536) (a : Option Addr) (cap : Nat) (w : World) (hS : Sines w) :
    Calls Tryd.prog 8 #[(.agg #[.int .u16 (x), .int .u16 (y)]), .slice a 0 cap] w fun e w' => e = .returned (.bool true) ∧ Below w.heap.size w w' := by
  have heq := @eq_dbl
  go_enter Tryd.func8, Tryd.ntmps8
  go_wp2_with fail
  refine (lives16 _ (hS.on (bl_alloc (Below.refl _ _) _))).mono ?_
  rintro _ r1 ⟨rfl, hbr1⟩
  obtain ⟨hcr1, hfr1⟩ := bcell hbr1
  have hzr1 := hbr1.size
  try simp only [World.size_alloc, World.size_setCell, World.size_drew] at hzr1
  have hlr1w0 : w.heap.size < r1.heap.size := by omega
  go_wp2_with fail
  refine (poly_zero x y hx0 hx1 hy0 hy1 a cap _).mono ?_
  rintro _ r2 ⟨rfl, hbr2⟩
  obtain ⟨hcr2, hfr2⟩ := bcell hbr2
  have hzr2 := hbr2.size
  try simp only [World.size_alloc, World.size_setCell, World.size_drew] at hzr2
  have hlr2w0 : w.heap.size < r2.heap.size := by omega
  go_wp2_with fail
  refine (rpoly_zero x y hx0 hx1 hy0 hy1 a cap _).mono ?_
  rintro _ r3 ⟨rfl, hbr3⟩
  obtain ⟨hcr3, hfr3⟩ := bcell hbr3
  have hzr3 := hbr3.size
  try simp only [World.size_alloc, World.size_setCell, World.size_drew] at hzr3
  have hlr3w0 : w.heap.size < r3.heap.size := by omega
  have hlr3r20 : r2.heap.size < r3.heap.size := by omega
  go_wp2
  go_ret
  exact ⟨rfl, (by repeat' (first | (with_reducible exact Below.refl _ _) | (with_reducible refine bl_set ?_ _ ?_) | (with_reducible refine bl_alloc ?_ _) | (with_reducible refine bl_drew ?_) | (with_reducible refine bl_via (by with_reducible assumption) ?_) | (with_reducible assumption) | omega | (simp only []; omega) | (simp; omega)))⟩

/-- The law FixedPoly for whatever slice reads as doubles. -/
theorem poly_law (x y : Int) (hx0 : 0 ≤ x) (hx1 : x < 65536) (hy0 : 0 ≤ y) (hy1 : y < 65536) (a : Option Addr) (len cap : Nat) (w : World) (hS : Sines w)
    (hc : 0 < len → len ≤ 30 → ∃ (B off : Nat) (f : Nat → Int), a = some ⟨B, off, none⟩ ∧ B < w.heap.size ∧ (∀ o, W16 (f o)) ∧ ∀ o, o < 2 * len → w.cell? ⟨B, off + o, none⟩ = some (.int .u16 (f o))) :
    Calls Tryd.prog 8 #[(.agg #[.int .u16 (x), .int .u16 (y)]), .slice a len cap] w fun e w' => e = .returned (.bool true) ∧ Below w.heap.size w w' := by
  rcases (show len = 0 ∨ 30 < len ∨ (0 < len ∧ len ≤ 30) by omega) with rfl | h | ⟨h0, h1⟩
  · exact poly_law_zero x y hx0 hx1 hy0 hy1 a cap w hS
  · exact poly_law_long x y hx0 hx1 hy0 hy1 len cap a h w hS
  · obtain ⟨B, off, f, rfl, hB, hf, hcell⟩ := hc h0 h1
    exact poly_law_some x y hx0 hx1 hy0 hy1 f hf len cap B off h1 w hB hcell hS
end Go.Proofs.YtccnflemopajcaaDoor
