/- Arguments that are vectors or matrices: opened to their words. No Go in it but the types. -/
import Derived.Test.YtpmocegfiniafaaKb
namespace Go.Proofs.Ytpmocegfiniafaa
set_option linter.unusedSimpArgs false
set_option linter.unusedVariables false
open Go.ChangeShapes Go.WideShapes Go.ChangeAt Go.RowKit

section
variable {H : Type} {enc : TypeId × Value → H} {W W' : World} {base : Nat} {sp : Nat → Bool} {held : Bool}
theorem cells_vec : Try.prog.cellsOf 27 = 6 := by kernel_rfl
theorem und_vec : Try.prog.underlying 27 = some (.array 3 25) := by kernel_rfl
theorem trod_vec {fuel : Nat} {cs : List Value} {x : DataW H × List MemPlace} (h : DataW.trod enc Try.prog W base sp held fuel 27 cs = some x) :
    ∃ x0 x1 x2 x3 x4 x5 : Int, cs = [.int .u16 x0, .int .u16 x1, .int .u16 x2, .int .u16 x3, .int .u16 x4, .int .u16 x5] ∧ x.2 = [] ∧ (0 ≤ x0 ∧ x0 < 65536) ∧ (0 ≤ x1 ∧ x1 < 65536) ∧ (0 ≤ x2 ∧ x2 < 65536) ∧ (0 ≤ x3 ∧ x3 < 65536) ∧ (0 ≤ x4 ∧ x4 < 65536) ∧ (0 ≤ x5 ∧ x5 < 65536) := by
  obtain ⟨xs, m, _, hx, hl, hn, hi⟩ := DataW.trod_array und_vec h
  rw [cells_dbl] at hi
  rw [cells_vec] at hl
  match cs, hl with
  | [c0, c1, c2, c3, c4, c5], _ =>
    have g0 := hi 0 (by omega)
    have g1 := hi 1 (by omega)
    have g2 := hi 2 (by omega)
    obtain ⟨y0, hy0⟩ : ∃ y, xs[0]? = some y := ⟨_, List.getElem?_eq_getElem (by omega)⟩
    obtain ⟨y1, hy1⟩ : ∃ y, xs[1]? = some y := ⟨_, List.getElem?_eq_getElem (by omega)⟩
    obtain ⟨y2, hy2⟩ : ∃ y, xs[2]? = some y := ⟨_, List.getElem?_eq_getElem (by omega)⟩
    obtain ⟨x0, x1, e0, n0, bx0, bx1⟩ := trod_dbl (g0.trans hy0)
    obtain ⟨x2, x3, e1, n1, bx2, bx3⟩ := trod_dbl (g1.trans hy1)
    obtain ⟨x4, x5, e2, n2, bx4, bx5⟩ := trod_dbl (g2.trans hy2)
    simp at e0 e1 e2
    obtain ⟨rfl, rfl⟩ := e0
    obtain ⟨rfl, rfl⟩ := e1
    obtain ⟨rfl, rfl⟩ := e2
    refine ⟨x0, x1, x2, x3, x4, x5, rfl, ?_, bx0, bx1, bx2, bx3, bx4, bx5⟩
    rw [hx]
    exact flat_nil xs hn fun i hi => by
      rcases (show i = 0 ∨ i = 1 ∨ i = 2 by omega) with rfl | rfl | rfl
      · exact ⟨y0, hy0, n0⟩
      · exact ⟨y1, hy1, n1⟩
      · exact ⟨y2, hy2, n2⟩
end
end Go.Proofs.Ytpmocegfiniafaa
