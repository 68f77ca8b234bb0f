/- Arguments of chapter 35 (arrays of doubles, structs of doubles and vectors, arrays of integers): opened to their words. No Go in it but the types. -/
import Derived.Test.YtpmocegfiniafaaKv
namespace Go.Proofs.Ytpmocegfiniafaa
set_option linter.unusedSimpArgs false
set_option linter.unusedVariables false
open Go.ChangeShapes Go.WideShapes Go.ChangeAt Go.RowKit

section
variable {H : Type} {enc : TypeId × Value → H} {W W' : World} {base : Nat} {sp : Nat → Bool} {held : Bool}
theorem okWide_str {r : Reach} {b0 : Nat} {t : TypeId} {fs : Array Field} {v : Value} (ht : Try.prog.underlying t = some (.struct fs)) (h : Value.okWide Try.prog W r b0 t v) : ∃ cs, v = .agg cs ∧ cs.size = Try.prog.cellsOf t := by
  simp only [Value.okWide, ht] at h
  obtain ⟨cs, h1, h2, _⟩ := h
  exact ⟨cs, h1, h2⟩
theorem cells_state : Try.prog.cellsOf 29 = 12 := by kernel_rfl
noncomputable def str_state : Array Field := match Try.prog.underlying 29 with | some (.struct fs) => fs | _ => #[]
theorem und_state : Try.prog.underlying 29 = some (.struct str_state) := by kernel_rfl
theorem siz_state : str_state.size = 2 := by kernel_rfl
theorem fld_state0 : (str_state[0]?).map (fun f => (f.type, f.offset)) = some (27, 0) := by kernel_rfl
theorem fld_state1 : (str_state[1]?).map (fun f => (f.type, f.offset)) = some (27, 6) := by kernel_rfl
set_option maxHeartbeats 2000000 in
theorem trod_state {fuel : Nat} {cs : List Value} {x : DataW H × List MemPlace} (h : DataW.trod enc Try.prog W base sp held fuel 29 cs = some x) :
    ∃ x0 x1 x2 x3 x4 x5 x6 x7 x8 x9 x10 x11 : Int, cs = [.int .u16 x0, .int .u16 x1, .int .u16 x2, .int .u16 x3, .int .u16 x4, .int .u16 x5, .int .u16 x6, .int .u16 x7, .int .u16 x8, .int .u16 x9, .int .u16 x10, .int .u16 x11] ∧ x.2 = [] ∧ (0 ≤ x0 ∧ x0 < 65536) ∧ (0 ≤ x1 ∧ x1 < 65536) ∧ (0 ≤ x2 ∧ x2 < 65536) ∧ (0 ≤ x3 ∧ x3 < 65536) ∧ (0 ≤ x4 ∧ x4 < 65536) ∧ (0 ≤ x5 ∧ x5 < 65536) ∧ (0 ≤ x6 ∧ x6 < 65536) ∧ (0 ≤ x7 ∧ x7 < 65536) ∧ (0 ≤ x8 ∧ x8 < 65536) ∧ (0 ≤ x9 ∧ x9 < 65536) ∧ (0 ≤ x10 ∧ x10 < 65536) ∧ (0 ≤ x11 ∧ x11 < 65536) := by
  obtain ⟨xs, m, _, hx, hl, hn, hi⟩ := DataW.trod_struct und_state h
  rw [siz_state] at hn
  rw [cells_state] at hl
  obtain ⟨f0, hf0, ht0⟩ := Option.map_eq_some_iff.1 fld_state0
  obtain ⟨ft0, fo0⟩ := Prod.mk.inj ht0
  have g0 := hi 0 f0 hf0
  rw [ft0, fo0, cells_vec] at g0
  obtain ⟨f1, hf1, ht1⟩ := Option.map_eq_some_iff.1 fld_state1
  obtain ⟨ft1, fo1⟩ := Prod.mk.inj ht1
  have g1 := hi 1 f1 hf1
  rw [ft1, fo1, cells_vec] at g1
  match cs, hl with
  | [c0, c1, c2, c3, c4, c5, c6, c7, c8, c9, c10, c11], _ =>
    obtain ⟨y0, hy0⟩ : ∃ y, xs[0]? = some y := ⟨_, List.getElem?_eq_getElem (by omega)⟩
    obtain ⟨y1, hy1⟩ : ∃ y, xs[1]? = some y := ⟨_, List.getElem?_eq_getElem (by omega)⟩
    obtain ⟨x0, x1, x2, x3, x4, x5, e0, n0, bx0, bx1, bx2, bx3, bx4, bx5⟩ := trod_vec ((g0).trans hy0)
    obtain ⟨x6, x7, x8, x9, x10, x11, e1, n1, bx6, bx7, bx8, bx9, bx10, bx11⟩ := trod_vec ((g1).trans hy1)
    simp at e0 e1
    obtain ⟨rfl, rfl, rfl, rfl, rfl, rfl⟩ := e0
    obtain ⟨rfl, rfl, rfl, rfl, rfl, rfl⟩ := e1
    refine ⟨x0, x1, x2, x3, x4, x5, x6, x7, x8, x9, x10, x11, rfl, ?_, bx0, bx1, bx2, bx3, bx4, bx5, bx6, bx7, bx8, bx9, bx10, bx11⟩
    rw [hx]
    exact flat_nil xs hn fun i hi => by
      rcases (show i = 0 ∨ i = 1 by omega) with rfl | rfl
      · exact ⟨y0, hy0, n0⟩
      · exact ⟨y1, hy1, n1⟩
theorem open_state {r : Reach} {b0 : Nat} {v : Value} {d : DataW H} {p : List MemPlace} (hv : Value.okWide Try.prog W r b0 29 v) (h : DataW.Trod enc Try.prog W base sp held 29 v d p) :
    ∃ x0 x1 x2 x3 x4 x5 x6 x7 x8 x9 x10 x11 : Int, v = .agg #[.int .u16 x0, .int .u16 x1, .int .u16 x2, .int .u16 x3, .int .u16 x4, .int .u16 x5, .int .u16 x6, .int .u16 x7, .int .u16 x8, .int .u16 x9, .int .u16 x10, .int .u16 x11] ∧ p = [] ∧ (0 ≤ x0 ∧ x0 < 65536) ∧ (0 ≤ x1 ∧ x1 < 65536) ∧ (0 ≤ x2 ∧ x2 < 65536) ∧ (0 ≤ x3 ∧ x3 < 65536) ∧ (0 ≤ x4 ∧ x4 < 65536) ∧ (0 ≤ x5 ∧ x5 < 65536) ∧ (0 ≤ x6 ∧ x6 < 65536) ∧ (0 ≤ x7 ∧ x7 < 65536) ∧ (0 ≤ x8 ∧ x8 < 65536) ∧ (0 ≤ x9 ∧ x9 < 65536) ∧ (0 ≤ x10 ∧ x10 < 65536) ∧ (0 ≤ x11 ∧ x11 < 65536) := by
  obtain ⟨cs, rfl, _⟩ := okWide_str und_state hv
  obtain ⟨fuel, hf⟩ := h
  obtain ⟨x0, x1, x2, x3, x4, x5, x6, x7, x8, x9, x10, x11, h1, h2, h3⟩ := trod_state hf
  refine ⟨x0, x1, x2, x3, x4, x5, x6, x7, x8, x9, x10, x11, ?_, h2, h3⟩
  have e : cs.toList = [.int .u16 x0, .int .u16 x1, .int .u16 x2, .int .u16 x3, .int .u16 x4, .int .u16 x5, .int .u16 x6, .int .u16 x7, .int .u16 x8, .int .u16 x9, .int .u16 x10, .int .u16 x11] := by simpa [Value.cells] using h1
  rw [← Array.toArray_toList (xs := cs), e]
theorem cells_target : Try.prog.cellsOf 31 = 14 := by kernel_rfl
noncomputable def str_target : Array Field := match Try.prog.underlying 31 with | some (.struct fs) => fs | _ => #[]
theorem und_target : Try.prog.underlying 31 = some (.struct str_target) := by kernel_rfl
theorem siz_target : str_target.size = 3 := by kernel_rfl
theorem fld_target0 : (str_target[0]?).map (fun f => (f.type, f.offset)) = some (27, 0) := by kernel_rfl
theorem fld_target1 : (str_target[1]?).map (fun f => (f.type, f.offset)) = some (27, 6) := by kernel_rfl
theorem fld_target2 : (str_target[2]?).map (fun f => (f.type, f.offset)) = some (25, 12) := by kernel_rfl
set_option maxHeartbeats 2000000 in
theorem trod_target {fuel : Nat} {cs : List Value} {x : DataW H × List MemPlace} (h : DataW.trod enc Try.prog W base sp held fuel 31 cs = some x) :
    ∃ x0 x1 x2 x3 x4 x5 x6 x7 x8 x9 x10 x11 x12 x13 : Int, cs = [.int .u16 x0, .int .u16 x1, .int .u16 x2, .int .u16 x3, .int .u16 x4, .int .u16 x5, .int .u16 x6, .int .u16 x7, .int .u16 x8, .int .u16 x9, .int .u16 x10, .int .u16 x11, .int .u16 x12, .int .u16 x13] ∧ x.2 = [] ∧ (0 ≤ x0 ∧ x0 < 65536) ∧ (0 ≤ x1 ∧ x1 < 65536) ∧ (0 ≤ x2 ∧ x2 < 65536) ∧ (0 ≤ x3 ∧ x3 < 65536) ∧ (0 ≤ x4 ∧ x4 < 65536) ∧ (0 ≤ x5 ∧ x5 < 65536) ∧ (0 ≤ x6 ∧ x6 < 65536) ∧ (0 ≤ x7 ∧ x7 < 65536) ∧ (0 ≤ x8 ∧ x8 < 65536) ∧ (0 ≤ x9 ∧ x9 < 65536) ∧ (0 ≤ x10 ∧ x10 < 65536) ∧ (0 ≤ x11 ∧ x11 < 65536) ∧ (0 ≤ x12 ∧ x12 < 65536) ∧ (0 ≤ x13 ∧ x13 < 65536) := by
  obtain ⟨xs, m, _, hx, hl, hn, hi⟩ := DataW.trod_struct und_target h
  rw [siz_target] at hn
  rw [cells_target] at hl
  obtain ⟨f0, hf0, ht0⟩ := Option.map_eq_some_iff.1 fld_target0
  obtain ⟨ft0, fo0⟩ := Prod.mk.inj ht0
  have g0 := hi 0 f0 hf0
  rw [ft0, fo0, cells_vec] at g0
  obtain ⟨f1, hf1, ht1⟩ := Option.map_eq_some_iff.1 fld_target1
  obtain ⟨ft1, fo1⟩ := Prod.mk.inj ht1
  have g1 := hi 1 f1 hf1
  rw [ft1, fo1, cells_vec] at g1
  obtain ⟨f2, hf2, ht2⟩ := Option.map_eq_some_iff.1 fld_target2
  obtain ⟨ft2, fo2⟩ := Prod.mk.inj ht2
  have g2 := hi 2 f2 hf2
  rw [ft2, fo2, cells_dbl] at g2
  match cs, hl with
  | [c0, c1, c2, c3, c4, c5, c6, c7, c8, c9, c10, c11, c12, c13], _ =>
    obtain ⟨y0, hy0⟩ : ∃ y, xs[0]? = some y := ⟨_, List.getElem?_eq_getElem (by omega)⟩
    obtain ⟨y1, hy1⟩ : ∃ y, xs[1]? = some y := ⟨_, List.getElem?_eq_getElem (by omega)⟩
    obtain ⟨y2, hy2⟩ : ∃ y, xs[2]? = some y := ⟨_, List.getElem?_eq_getElem (by omega)⟩
    obtain ⟨x0, x1, x2, x3, x4, x5, e0, n0, bx0, bx1, bx2, bx3, bx4, bx5⟩ := trod_vec ((g0).trans hy0)
    obtain ⟨x6, x7, x8, x9, x10, x11, e1, n1, bx6, bx7, bx8, bx9, bx10, bx11⟩ := trod_vec ((g1).trans hy1)
    obtain ⟨x12, x13, e2, n2, bx12, bx13⟩ := trod_dbl ((g2).trans hy2)
    simp at e0 e1 e2
    obtain ⟨rfl, rfl, rfl, rfl, rfl, rfl⟩ := e0
    obtain ⟨rfl, rfl, rfl, rfl, rfl, rfl⟩ := e1
    obtain ⟨rfl, rfl⟩ := e2
    refine ⟨x0, x1, x2, x3, x4, x5, x6, x7, x8, x9, x10, x11, x12, x13, rfl, ?_, bx0, bx1, bx2, bx3, bx4, bx5, bx6, bx7, bx8, bx9, bx10, bx11, bx12, bx13⟩
    rw [hx]
    exact flat_nil xs hn fun i hi => by
      rcases (show i = 0 ∨ i = 1 ∨ i = 2 by omega) with rfl | rfl | rfl
      · exact ⟨y0, hy0, n0⟩
      · exact ⟨y1, hy1, n1⟩
      · exact ⟨y2, hy2, n2⟩
theorem open_target {r : Reach} {b0 : Nat} {v : Value} {d : DataW H} {p : List MemPlace} (hv : Value.okWide Try.prog W r b0 31 v) (h : DataW.Trod enc Try.prog W base sp held 31 v d p) :
    ∃ x0 x1 x2 x3 x4 x5 x6 x7 x8 x9 x10 x11 x12 x13 : Int, v = .agg #[.int .u16 x0, .int .u16 x1, .int .u16 x2, .int .u16 x3, .int .u16 x4, .int .u16 x5, .int .u16 x6, .int .u16 x7, .int .u16 x8, .int .u16 x9, .int .u16 x10, .int .u16 x11, .int .u16 x12, .int .u16 x13] ∧ p = [] ∧ (0 ≤ x0 ∧ x0 < 65536) ∧ (0 ≤ x1 ∧ x1 < 65536) ∧ (0 ≤ x2 ∧ x2 < 65536) ∧ (0 ≤ x3 ∧ x3 < 65536) ∧ (0 ≤ x4 ∧ x4 < 65536) ∧ (0 ≤ x5 ∧ x5 < 65536) ∧ (0 ≤ x6 ∧ x6 < 65536) ∧ (0 ≤ x7 ∧ x7 < 65536) ∧ (0 ≤ x8 ∧ x8 < 65536) ∧ (0 ≤ x9 ∧ x9 < 65536) ∧ (0 ≤ x10 ∧ x10 < 65536) ∧ (0 ≤ x11 ∧ x11 < 65536) ∧ (0 ≤ x12 ∧ x12 < 65536) ∧ (0 ≤ x13 ∧ x13 < 65536) := by
  obtain ⟨cs, rfl, _⟩ := okWide_str und_target hv
  obtain ⟨fuel, hf⟩ := h
  obtain ⟨x0, x1, x2, x3, x4, x5, x6, x7, x8, x9, x10, x11, x12, x13, h1, h2, h3⟩ := trod_target hf
  refine ⟨x0, x1, x2, x3, x4, x5, x6, x7, x8, x9, x10, x11, x12, x13, ?_, h2, h3⟩
  have e : cs.toList = [.int .u16 x0, .int .u16 x1, .int .u16 x2, .int .u16 x3, .int .u16 x4, .int .u16 x5, .int .u16 x6, .int .u16 x7, .int .u16 x8, .int .u16 x9, .int .u16 x10, .int .u16 x11, .int .u16 x12, .int .u16 x13] := by simpa [Value.cells] using h1
  rw [← Array.toArray_toList (xs := cs), e]
theorem cells_i16 : Try.prog.cellsOf 40 = 1 := by kernel_rfl
theorem cells_ints : Try.prog.cellsOf 41 = 3 := by kernel_rfl
theorem und_ints : Try.prog.underlying 41 = some (.array 3 40) := by kernel_rfl
theorem trod_i16 {fuel : Nat} {cs : List Value} {x : DataW H × List MemPlace} (h : DataW.trod enc Try.prog W base sp held fuel 40 cs = some x) : ∃ z : Int, cs = [.int .i16 z] ∧ x.2 = [] ∧ (-32768 ≤ z ∧ z < 32768) := by
  obtain ⟨n, h1, h2, h3⟩ := DataW.trod_int (k := .i16) (by kernel_rfl) h
  have := bounds_i16 h3
  exact ⟨n, h1, by rw [h2], by omega, by omega⟩
theorem trod_ints {fuel : Nat} {cs : List Value} {x : DataW H × List MemPlace} (h : DataW.trod enc Try.prog W base sp held fuel 41 cs = some x) :
    ∃ x0 x1 x2 : Int, cs = [.int .i16 x0, .int .i16 x1, .int .i16 x2] ∧ x.2 = [] ∧ (-32768 ≤ x0 ∧ x0 < 32768) ∧ (-32768 ≤ x1 ∧ x1 < 32768) ∧ (-32768 ≤ x2 ∧ x2 < 32768) := by
  obtain ⟨xs, m, _, hx, hl, hn, hi⟩ := DataW.trod_array und_ints h
  rw [cells_i16] at hi
  rw [cells_ints] at hl
  match cs, hl with
  | [c0, c1, c2], _ =>
    have g0 := hi 0 (by omega)
    have g1 := hi 1 (by omega)
    have g2 := hi 2 (by omega)
    obtain ⟨y0, hy0⟩ : ∃ y, xs[0]? = some y := ⟨_, List.getElem?_eq_getElem (by omega)⟩
    obtain ⟨y1, hy1⟩ : ∃ y, xs[1]? = some y := ⟨_, List.getElem?_eq_getElem (by omega)⟩
    obtain ⟨y2, hy2⟩ : ∃ y, xs[2]? = some y := ⟨_, List.getElem?_eq_getElem (by omega)⟩
    obtain ⟨a, ea, na, ba⟩ := trod_i16 (g0.trans hy0)
    obtain ⟨b, eb, nb, bb⟩ := trod_i16 (g1.trans hy1)
    obtain ⟨c, ec, nc, bc⟩ := trod_i16 (g2.trans hy2)
    simp at ea eb ec
    subst ea; subst eb; subst ec
    refine ⟨a, b, c, rfl, ?_, ba, bb, bc⟩
    rw [hx]
    exact flat_nil xs hn fun i hi => by
      rcases (show i = 0 ∨ i = 1 ∨ i = 2 by omega) with rfl | rfl | rfl
      · exact ⟨y0, hy0, na⟩
      · exact ⟨y1, hy1, nb⟩
      · exact ⟨y2, hy2, nc⟩
theorem open_ints {r : Reach} {b0 : Nat} {v : Value} {d : DataW H} {p : List MemPlace} (hv : Value.okWide Try.prog W r b0 41 v) (h : DataW.Trod enc Try.prog W base sp held 41 v d p) :
    ∃ x0 x1 x2 : Int, v = .agg #[.int .i16 x0, .int .i16 x1, .int .i16 x2] ∧ p = [] ∧ (-32768 ≤ x0 ∧ x0 < 32768) ∧ (-32768 ≤ x1 ∧ x1 < 32768) ∧ (-32768 ≤ x2 ∧ x2 < 32768) := by
  obtain ⟨cs, rfl, _⟩ := okWide_arr und_ints hv
  obtain ⟨fuel, hf⟩ := h
  obtain ⟨x0, x1, x2, h1, h2, h3⟩ := trod_ints hf
  refine ⟨x0, x1, x2, ?_, h2, h3⟩
  have e : cs.toList = [.int .i16 x0, .int .i16 x1, .int .i16 x2] := by simpa [Value.cells] using h1
  rw [← Array.toArray_toList (xs := cs), e]
end
end Go.Proofs.Ytpmocegfiniafaa
