/- The walk of the law FixedPoly: for every input it returns true, where the table of coefficients is as laid. -/
import Derived.Test.YtccnflemopajcaaDoorWl
import Derived.Test.YtccnflemopajcaaDoorPn
import Derived.Test.YtccnflemopajcaaDoorFn
namespace Go.Proofs.YtccnflemopajcaaDoor
set_option linter.unusedSimpArgs false
set_option linter.unusedVariables false
open Go.RowKit

set_option maxHeartbeats 2000000 in
theorem poly_law_nil (x y : Int) (hx0 : 0 ≤ x) (hx1 : x < 65536) (hy0 : 0 ≤ y) (hy1 : y < 65536) (w : World) (hS : Sines w) :
    Calls Tryd.prog 8 #[(.agg #[.int .u16 (x), .int .u16 (y)]), .slice none 0 0] w fun e w' => e = .returned (.bool true) ∧ Below w.heap.size w w' := by
  have heq := @eq_dbl
  go_enter Tryd.func8, Tryd.ntmps8
  go_wp2_with fail
  refine (lives16 _ (hS.on (bl_alloc (Below.refl _ _) _))).mono ?_
  rintro _ r1 ⟨rfl, hbr1⟩
  obtain ⟨hcr1, hfr1⟩ := bcell hbr1
  have hzr1 := hbr1.size
  try simp only [World.size_alloc, World.size_setCell, World.size_drew] at hzr1
  have hlr1w0 : w.heap.size < r1.heap.size := by omega
  go_wp2_with fail
  refine (poly_nil x y hx0 hx1 hy0 hy1 _).mono ?_
  rintro _ r2 ⟨rfl, hbr2⟩
  obtain ⟨hcr2, hfr2⟩ := bcell hbr2
  have hzr2 := hbr2.size
  try simp only [World.size_alloc, World.size_setCell, World.size_drew] at hzr2
  have hlr2w0 : w.heap.size < r2.heap.size := by omega
  go_wp2_with fail
  refine (rpoly_nil x y hx0 hx1 hy0 hy1 _).mono ?_
  rintro _ r3 ⟨rfl, hbr3⟩
  obtain ⟨hcr3, hfr3⟩ := bcell hbr3
  have hzr3 := hbr3.size
  try simp only [World.size_alloc, World.size_setCell, World.size_drew] at hzr3
  have hlr3w0 : w.heap.size < r3.heap.size := by omega
  have hlr3r20 : r2.heap.size < r3.heap.size := by omega
  go_wp2
  go_ret
  exact ⟨rfl, (by repeat' (first | (with_reducible exact Below.refl _ _) | (with_reducible refine bl_set ?_ _ ?_) | (with_reducible refine bl_alloc ?_ _) | (with_reducible refine bl_drew ?_) | (with_reducible refine bl_via (by with_reducible assumption) ?_) | (with_reducible assumption) | omega | (simp only []; omega) | (simp; omega)))⟩
set_option maxHeartbeats 2000000 in
theorem poly_law_some (x y : Int) (hx0 : 0 ≤ x) (hx1 : x < 65536) (hy0 : 0 ≤ y) (hy1 : y < 65536) (f : Nat → Int) (hf : ∀ o, W16 (f o)) (n cap B off : Nat) (hn : n ≤ 30) (w : World) (hB : B < w.heap.size) (hc : ∀ o, o < 2 * n → w.cell? ⟨B, off + o, none⟩ = some (.int .u16 (f o))) (hS : Sines w) :
    Calls Tryd.prog 8 #[(.agg #[.int .u16 (x), .int .u16 (y)]), .slice (some ⟨B, off, none⟩) n cap] w fun e w' => e = .returned (.bool true) ∧ Below w.heap.size w w' := by
  obtain ⟨m0, m1, o, C1, C2⟩ : ∃ (m0 m1 : Int) (o : Bool), (∀ W, Below w.heap.size w W → Calls Tryd.prog 26 #[(.agg #[.int .u16 (x), .int .u16 (y)]), .slice (some ⟨B, off, none⟩) n cap] W fun e W' => e = .returned (.tuple #[(.agg #[.int .u16 (m0), .int .u16 (m1)]), .bool o]) ∧ Below W.heap.size W W') ∧ (∀ W, Below w.heap.size w W → Calls Tryd.prog 27 #[(.agg #[.int .u16 (x), .int .u16 (y)]), .slice (some ⟨B, off, none⟩) n cap] W fun e W' => e = .returned (.tuple #[(.agg #[.int .u16 (m0), .int .u16 (m1)]), .bool o]) ∧ Below W.heap.size W W') :=
    ⟨_, _, _, fun W hW => poly_fn x y hx0 hx1 hy0 hy1 f hf n cap B off (by omega) W (Nat.lt_of_lt_of_le hB hW.size) (fun o ho => (hW.cell (p := ⟨B, off + o, none⟩) hB).trans (hc o ho)), fun W hW => rpoly_fn x y hx0 hx1 hy0 hy1 f hf n cap B off (by omega) W (Nat.lt_of_lt_of_le hB hW.size) (fun o ho => (hW.cell (p := ⟨B, off + o, none⟩) hB).trans (hc o ho))⟩
  have hd : decide ((30 : Int) < (n : Int)) = false := decide_eq_false (by omega)
  clear hc
  have heq := @eq_dbl
  go_enter Tryd.func8, Tryd.ntmps8
  go_wp2_with fail
  refine (lives16 _ (hS.on (bl_alloc (Below.refl _ _) _))).mono ?_
  rintro _ r1 ⟨rfl, hbr1⟩
  obtain ⟨hcr1, hfr1⟩ := bcell hbr1
  have hzr1 := hbr1.size
  try simp only [World.size_alloc, World.size_setCell, World.size_drew] at hzr1
  have hlr1w0 : w.heap.size < r1.heap.size := by omega
  go_wp2_with fail
  refine (C1 _ (by repeat' (first | (with_reducible exact Below.refl _ _) | (with_reducible refine bl_set ?_ _ ?_) | (with_reducible refine bl_alloc ?_ _) | (with_reducible refine bl_drew ?_) | (with_reducible refine bl_via (by with_reducible assumption) ?_) | (with_reducible assumption) | omega | (simp only []; omega) | (simp; omega)))).mono ?_
  rintro _ r2 ⟨rfl, hbr2⟩
  obtain ⟨hcr2, hfr2⟩ := bcell hbr2
  have hzr2 := hbr2.size
  try simp only [World.size_alloc, World.size_setCell, World.size_drew] at hzr2
  have hlr2w0 : w.heap.size < r2.heap.size := by omega
  go_wp2_with fail
  refine (C2 _ (by repeat' (first | (with_reducible exact Below.refl _ _) | (with_reducible refine bl_set ?_ _ ?_) | (with_reducible refine bl_alloc ?_ _) | (with_reducible refine bl_drew ?_) | (with_reducible refine bl_via (by with_reducible assumption) ?_) | (with_reducible assumption) | omega | (simp only []; omega) | (simp; omega)))).mono ?_
  rintro _ r3 ⟨rfl, hbr3⟩
  obtain ⟨hcr3, hfr3⟩ := bcell hbr3
  have hzr3 := hbr3.size
  try simp only [World.size_alloc, World.size_setCell, World.size_drew] at hzr3
  have hlr3w0 : w.heap.size < r3.heap.size := by omega
  have hlr3r20 : r2.heap.size < r3.heap.size := by omega
  go_wp2
  go_ret
  exact ⟨rfl, (by repeat' (first | (with_reducible exact Below.refl _ _) | (with_reducible refine bl_set ?_ _ ?_) | (with_reducible refine bl_alloc ?_ _) | (with_reducible refine bl_drew ?_) | (with_reducible refine bl_via (by with_reducible assumption) ?_) | (with_reducible assumption) | omega | (simp only []; omega) | (simp; omega)))⟩
set_option maxHeartbeats 2000000 in
theorem poly_law_long (x y : Int) (hx0 : 0 ≤ x) (hx1 : x < 65536) (hy0 : 0 ≤ y) (hy1 : y < 65536) (n cap : Nat) (a : Option Addr) (hn : 30 < n) (w : World) (hS : Sines w) :
    Calls Tryd.prog 8 #[(.agg #[.int .u16 (x), .int .u16 (y)]), .slice a n cap] w fun e w' => e = .returned (.bool true) ∧ Below w.heap.size w w' := by
  have hd : decide ((30 : Int) < (n : Int)) = true := decide_eq_true (by omega)
  go_enter Tryd.func8, Tryd.ntmps8
  go_wp2_with fail
  refine (lives16 _ (hS.on (bl_alloc (Below.refl _ _) _))).mono ?_
  rintro _ r1 ⟨rfl, hbr1⟩
  obtain ⟨hcr1, hfr1⟩ := bcell hbr1
  have hzr1 := hbr1.size
  try simp only [World.size_alloc, World.size_setCell, World.size_drew] at hzr1
  have hlr1w0 : w.heap.size < r1.heap.size := by omega
  go_wp2
  go_ret
  exact ⟨rfl, (by repeat' (first | (with_reducible exact Below.refl _ _) | (with_reducible refine bl_set ?_ _ ?_) | (with_reducible refine bl_alloc ?_ _) | (with_reducible refine bl_drew ?_) | (with_reducible refine bl_via (by with_reducible assumption) ?_) | (with_reducible assumption) | omega | (simp only []; omega) | (simp; omega)))⟩
end Go.Proofs.YtccnflemopajcaaDoor
