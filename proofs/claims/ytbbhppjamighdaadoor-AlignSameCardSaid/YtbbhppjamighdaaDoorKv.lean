/- Arguments that are vectors or matrices: opened to their words. No Go in it but the types. -/
import Derived.Test.YtbbhppjamighdaaDoorKb
namespace Go.Proofs.YtbbhppjamighdaaDoor
set_option linter.unusedSimpArgs false
set_option linter.unusedVariables false
open Go.ChangeShapes Go.WideShapes Go.ChangeAt Go.RowKit

section
variable {H : Type} {enc : TypeId × Value → H} {W W' : World} {base : Nat} {sp : Nat → Bool} {held : Bool}
theorem cells_vec : Tryd.prog.cellsOf 27 = 6 := by kernel_rfl
theorem und_vec : Tryd.prog.underlying 27 = some (.array 3 25) := by kernel_rfl
theorem trod_vec {fuel : Nat} {cs : List Value} {x : DataW H × List MemPlace} (h : DataW.trod enc Tryd.prog W base sp held fuel 27 cs = some x) :
    ∃ x0 x1 x2 x3 x4 x5 : Int, cs = [.int .u16 x0, .int .u16 x1, .int .u16 x2, .int .u16 x3, .int .u16 x4, .int .u16 x5] ∧ x.2 = [] ∧ (0 ≤ x0 ∧ x0 < 65536) ∧ (0 ≤ x1 ∧ x1 < 65536) ∧ (0 ≤ x2 ∧ x2 < 65536) ∧ (0 ≤ x3 ∧ x3 < 65536) ∧ (0 ≤ x4 ∧ x4 < 65536) ∧ (0 ≤ x5 ∧ x5 < 65536) := by
  obtain ⟨xs, m, _, hx, hl, hn, hi⟩ := DataW.trod_array und_vec h
  rw [cells_dbl] at hi
  rw [cells_vec] at hl
  match cs, hl with
  | [c0, c1, c2, c3, c4, c5], _ =>
    have g0 := hi 0 (by omega)
    have g1 := hi 1 (by omega)
    have g2 := hi 2 (by omega)
    obtain ⟨y0, hy0⟩ : ∃ y, xs[0]? = some y := ⟨_, List.getElem?_eq_getElem (by omega)⟩
    obtain ⟨y1, hy1⟩ : ∃ y, xs[1]? = some y := ⟨_, List.getElem?_eq_getElem (by omega)⟩
    obtain ⟨y2, hy2⟩ : ∃ y, xs[2]? = some y := ⟨_, List.getElem?_eq_getElem (by omega)⟩
    obtain ⟨x0, x1, e0, n0, bx0, bx1⟩ := trod_dbl (g0.trans hy0)
    obtain ⟨x2, x3, e1, n1, bx2, bx3⟩ := trod_dbl (g1.trans hy1)
    obtain ⟨x4, x5, e2, n2, bx4, bx5⟩ := trod_dbl (g2.trans hy2)
    simp at e0 e1 e2
    obtain ⟨rfl, rfl⟩ := e0
    obtain ⟨rfl, rfl⟩ := e1
    obtain ⟨rfl, rfl⟩ := e2
    refine ⟨x0, x1, x2, x3, x4, x5, rfl, ?_, bx0, bx1, bx2, bx3, bx4, bx5⟩
    rw [hx]
    exact flat_nil xs hn fun i hi => by
      rcases (show i = 0 ∨ i = 1 ∨ i = 2 by omega) with rfl | rfl | rfl
      · exact ⟨y0, hy0, n0⟩
      · exact ⟨y1, hy1, n1⟩
      · exact ⟨y2, hy2, n2⟩
theorem open_vec {r : Reach} {b0 : Nat} {v : Value} {d : DataW H} {p : List MemPlace} (hv : Value.okWide Tryd.prog W r b0 27 v) (h : DataW.Trod enc Tryd.prog W base sp held 27 v d p) :
    ∃ x0 x1 x2 x3 x4 x5 : Int, v = .agg #[.int .u16 x0, .int .u16 x1, .int .u16 x2, .int .u16 x3, .int .u16 x4, .int .u16 x5] ∧ p = [] ∧ (0 ≤ x0 ∧ x0 < 65536) ∧ (0 ≤ x1 ∧ x1 < 65536) ∧ (0 ≤ x2 ∧ x2 < 65536) ∧ (0 ≤ x3 ∧ x3 < 65536) ∧ (0 ≤ x4 ∧ x4 < 65536) ∧ (0 ≤ x5 ∧ x5 < 65536) := by
  obtain ⟨cs, rfl, _⟩ := okWide_arr und_vec hv
  obtain ⟨fuel, hf⟩ := h
  obtain ⟨x0, x1, x2, x3, x4, x5, h1, h2, h3⟩ := trod_vec hf
  refine ⟨x0, x1, x2, x3, x4, x5, ?_, h2, h3⟩
  have e : cs.toList = [.int .u16 x0, .int .u16 x1, .int .u16 x2, .int .u16 x3, .int .u16 x4, .int .u16 x5] := by simpa [Value.cells] using h1
  rw [← Array.toArray_toList (xs := cs), e]

set_option maxHeartbeats 1000000 in
theorem cells_mat : Tryd.prog.cellsOf 29 = 18 := by kernel_rfl
theorem und_mat : Tryd.prog.underlying 29 = some (.array 3 27) := by kernel_rfl
theorem trod_mat {fuel : Nat} {cs : List Value} {x : DataW H × List MemPlace} (h : DataW.trod enc Tryd.prog W base sp held fuel 29 cs = some x) :
    ∃ x0 x1 x2 x3 x4 x5 x6 x7 x8 x9 x10 x11 x12 x13 x14 x15 x16 x17 : Int, cs = [.int .u16 x0, .int .u16 x1, .int .u16 x2, .int .u16 x3, .int .u16 x4, .int .u16 x5, .int .u16 x6, .int .u16 x7, .int .u16 x8, .int .u16 x9, .int .u16 x10, .int .u16 x11, .int .u16 x12, .int .u16 x13, .int .u16 x14, .int .u16 x15, .int .u16 x16, .int .u16 x17] ∧ x.2 = [] ∧ (0 ≤ x0 ∧ x0 < 65536) ∧ (0 ≤ x1 ∧ x1 < 65536) ∧ (0 ≤ x2 ∧ x2 < 65536) ∧ (0 ≤ x3 ∧ x3 < 65536) ∧ (0 ≤ x4 ∧ x4 < 65536) ∧ (0 ≤ x5 ∧ x5 < 65536) ∧ (0 ≤ x6 ∧ x6 < 65536) ∧ (0 ≤ x7 ∧ x7 < 65536) ∧ (0 ≤ x8 ∧ x8 < 65536) ∧ (0 ≤ x9 ∧ x9 < 65536) ∧ (0 ≤ x10 ∧ x10 < 65536) ∧ (0 ≤ x11 ∧ x11 < 65536) ∧ (0 ≤ x12 ∧ x12 < 65536) ∧ (0 ≤ x13 ∧ x13 < 65536) ∧ (0 ≤ x14 ∧ x14 < 65536) ∧ (0 ≤ x15 ∧ x15 < 65536) ∧ (0 ≤ x16 ∧ x16 < 65536) ∧ (0 ≤ x17 ∧ x17 < 65536) := by
  obtain ⟨xs, m, _, hx, hl, hn, hi⟩ := DataW.trod_array und_mat h
  rw [cells_vec] at hi
  rw [cells_mat] at hl
  match cs, hl with
  | [c0, c1, c2, c3, c4, c5, c6, c7, c8, c9, c10, c11, c12, c13, c14, c15, c16, c17], _ =>
    have g0 := hi 0 (by omega)
    have g1 := hi 1 (by omega)
    have g2 := hi 2 (by omega)
    obtain ⟨y0, hy0⟩ : ∃ y, xs[0]? = some y := ⟨_, List.getElem?_eq_getElem (by omega)⟩
    obtain ⟨y1, hy1⟩ : ∃ y, xs[1]? = some y := ⟨_, List.getElem?_eq_getElem (by omega)⟩
    obtain ⟨y2, hy2⟩ : ∃ y, xs[2]? = some y := ⟨_, List.getElem?_eq_getElem (by omega)⟩
    obtain ⟨x0, x1, x2, x3, x4, x5, e0, n0, bx0, bx1, bx2, bx3, bx4, bx5⟩ := trod_vec (g0.trans hy0)
    obtain ⟨x6, x7, x8, x9, x10, x11, e1, n1, bx6, bx7, bx8, bx9, bx10, bx11⟩ := trod_vec (g1.trans hy1)
    obtain ⟨x12, x13, x14, x15, x16, x17, e2, n2, bx12, bx13, bx14, bx15, bx16, bx17⟩ := trod_vec (g2.trans hy2)
    simp at e0 e1 e2
    obtain ⟨rfl, rfl, rfl, rfl, rfl, rfl⟩ := e0
    obtain ⟨rfl, rfl, rfl, rfl, rfl, rfl⟩ := e1
    obtain ⟨rfl, rfl, rfl, rfl, rfl, rfl⟩ := e2
    refine ⟨x0, x1, x2, x3, x4, x5, x6, x7, x8, x9, x10, x11, x12, x13, x14, x15, x16, x17, rfl, ?_, bx0, bx1, bx2, bx3, bx4, bx5, bx6, bx7, bx8, bx9, bx10, bx11, bx12, bx13, bx14, bx15, bx16, bx17⟩
    rw [hx]
    exact flat_nil xs hn fun i hi => by
      rcases (show i = 0 ∨ i = 1 ∨ i = 2 by omega) with rfl | rfl | rfl
      · exact ⟨y0, hy0, n0⟩
      · exact ⟨y1, hy1, n1⟩
      · exact ⟨y2, hy2, n2⟩
theorem open_mat {r : Reach} {b0 : Nat} {v : Value} {d : DataW H} {p : List MemPlace} (hv : Value.okWide Tryd.prog W r b0 29 v) (h : DataW.Trod enc Tryd.prog W base sp held 29 v d p) :
    ∃ x0 x1 x2 x3 x4 x5 x6 x7 x8 x9 x10 x11 x12 x13 x14 x15 x16 x17 : Int, v = .agg #[.int .u16 x0, .int .u16 x1, .int .u16 x2, .int .u16 x3, .int .u16 x4, .int .u16 x5, .int .u16 x6, .int .u16 x7, .int .u16 x8, .int .u16 x9, .int .u16 x10, .int .u16 x11, .int .u16 x12, .int .u16 x13, .int .u16 x14, .int .u16 x15, .int .u16 x16, .int .u16 x17] ∧ p = [] ∧ (0 ≤ x0 ∧ x0 < 65536) ∧ (0 ≤ x1 ∧ x1 < 65536) ∧ (0 ≤ x2 ∧ x2 < 65536) ∧ (0 ≤ x3 ∧ x3 < 65536) ∧ (0 ≤ x4 ∧ x4 < 65536) ∧ (0 ≤ x5 ∧ x5 < 65536) ∧ (0 ≤ x6 ∧ x6 < 65536) ∧ (0 ≤ x7 ∧ x7 < 65536) ∧ (0 ≤ x8 ∧ x8 < 65536) ∧ (0 ≤ x9 ∧ x9 < 65536) ∧ (0 ≤ x10 ∧ x10 < 65536) ∧ (0 ≤ x11 ∧ x11 < 65536) ∧ (0 ≤ x12 ∧ x12 < 65536) ∧ (0 ≤ x13 ∧ x13 < 65536) ∧ (0 ≤ x14 ∧ x14 < 65536) ∧ (0 ≤ x15 ∧ x15 < 65536) ∧ (0 ≤ x16 ∧ x16 < 65536) ∧ (0 ≤ x17 ∧ x17 < 65536) := by
  obtain ⟨cs, rfl, _⟩ := okWide_arr und_mat hv
  obtain ⟨fuel, hf⟩ := h
  obtain ⟨x0, x1, x2, x3, x4, x5, x6, x7, x8, x9, x10, x11, x12, x13, x14, x15, x16, x17, h1, h2, h3⟩ := trod_mat hf
  refine ⟨x0, x1, x2, x3, x4, x5, x6, x7, x8, x9, x10, x11, x12, x13, x14, x15, x16, x17, ?_, h2, h3⟩
  have e : cs.toList = [.int .u16 x0, .int .u16 x1, .int .u16 x2, .int .u16 x3, .int .u16 x4, .int .u16 x5, .int .u16 x6, .int .u16 x7, .int .u16 x8, .int .u16 x9, .int .u16 x10, .int .u16 x11, .int .u16 x12, .int .u16 x13, .int .u16 x14, .int .u16 x15, .int .u16 x16, .int .u16 x17] := by simpa [Value.cells] using h1
  rw [← Array.toArray_toList (xs := cs), e]

end
end Go.Proofs.YtbbhppjamighdaaDoor
