/- Arguments that are arrays of numbers, arrays of these, or structs of these: opened to their words; they read on as they did. No Go in it but the types. -/
import Derived.Test.YtbbhppjamighdaaDoorProg
import Derived.WalkKit
import Derived.ProofKit
import Derived.OpenShut
namespace Go.Proofs.YtbbhppjamighdaaDoor
set_option linter.unusedSimpArgs false
set_option linter.unusedVariables false
open Go.ChangeShapes Go.WideShapes Go.ChangeAt Go.RowKit

theorem laid_out : laidOutB Tryd.prog = true := by kernel_rfl

section
variable {H : Type} {enc : TypeId × Value → H} {W W' : World} {base : Nat} {sp : Nat → Bool} {held : Bool}
theorem okWide_arr {n e : Nat} {r : Reach} {b0 : Nat} {t : TypeId} {v : Value} (ht : Tryd.prog.underlying t = some (.array n e)) (h : Value.okWide Tryd.prog W r b0 t v) : ∃ cs, v = .agg cs ∧ cs.size = Tryd.prog.cellsOf t := by
  simp only [Value.okWide, ht] at h
  obtain ⟨cs, h1, h2, _⟩ := h
  exact ⟨cs, h1, h2⟩
/-- What holds no place reads on. -/
theorem stays {t : TypeId} (hr : Tryd.prog.readableRec t = true) (hrow : t < Tryd.prog.types.size) {sp' : Nat → Bool} {v : Value} {d : DataW H}
    (h : DataW.Trod enc Tryd.prog W base (fun _ => true) true t v d []) : DataW.Trod enc Tryd.prog W' base sp' true t v d [] :=
  WideElems.Trod_stays laid_out hr hrow h (fun p hp => by cases hp) (fun p hp => by cases hp)

theorem trod_word {fuel : Nat} {cs : List Value} {x : DataW H × List MemPlace} (h : DataW.trod enc Tryd.prog W base sp held fuel 23 cs = some x) : ∃ z : Int, cs = [.int .u16 z] ∧ x.2 = [] ∧ 0 ≤ z ∧ z < 65536 := by
  obtain ⟨n, h1, h2, h3⟩ := DataW.trod_int (k := .u16) (by kernel_rfl) h
  have := bounds_u16 h3
  exact ⟨n, h1, by rw [h2], by omega, by omega⟩

theorem flat_nil {n : Nat} (xs : List (DataW H × List MemPlace)) (hl : xs.length = n) (h : ∀ i, i < n → ∃ x, xs[i]? = some x ∧ x.2 = []) : xs.flatMap (·.2) = [] := by
  rw [List.flatMap_eq_nil_iff]
  intro x hx
  obtain ⟨i, hi, rfl⟩ := List.mem_iff_getElem.1 hx
  obtain ⟨y, hy, hn⟩ := h i (by omega)
  rw [List.getElem?_eq_getElem hi] at hy
  cases hy
  exact hn

theorem cells_word : Tryd.prog.cellsOf 23 = 1 := by kernel_rfl
theorem cells_dbl : Tryd.prog.cellsOf 25 = 2 := by kernel_rfl
theorem und_dbl : Tryd.prog.underlying 25 = some (.array 2 23) := by kernel_rfl
theorem trod_dbl {fuel : Nat} {cs : List Value} {x : DataW H × List MemPlace} (h : DataW.trod enc Tryd.prog W base sp held fuel 25 cs = some x) :
    ∃ a b : Int, cs = [.int .u16 a, .int .u16 b] ∧ x.2 = [] ∧ (0 ≤ a ∧ a < 65536) ∧ (0 ≤ b ∧ b < 65536) := by
  obtain ⟨xs, m, _, hx, hl, hn, hi⟩ := DataW.trod_array und_dbl h
  rw [cells_word] at hi
  rw [cells_dbl] at hl
  match cs, hl with
  | [c0, c1], _ =>
    have g0 := hi 0 (by omega)
    have g1 := hi 1 (by omega)
    obtain ⟨y0, hy0⟩ : ∃ y, xs[0]? = some y := ⟨_, List.getElem?_eq_getElem (by omega)⟩
    obtain ⟨y1, hy1⟩ : ∃ y, xs[1]? = some y := ⟨_, List.getElem?_eq_getElem (by omega)⟩
    obtain ⟨a, ea, na, a0, a1⟩ := trod_word (g0.trans hy0)
    obtain ⟨b, eb, nb, b0, b1⟩ := trod_word (g1.trans hy1)
    simp at ea eb
    subst ea; subst eb
    refine ⟨a, b, rfl, ?_, ⟨a0, a1⟩, ⟨b0, b1⟩⟩
    rw [hx]
    exact flat_nil xs hn fun i hi => by
      rcases (show i = 0 ∨ i = 1 by omega) with rfl | rfl
      · exact ⟨y0, hy0, na⟩
      · exact ⟨y1, hy1, nb⟩
theorem open_dbl {r : Reach} {b0 : Nat} {v : Value} {d : DataW H} {p : List MemPlace} (hv : Value.okWide Tryd.prog W r b0 25 v) (h : DataW.Trod enc Tryd.prog W base sp held 25 v d p) :
    ∃ a b : Int, v = .agg #[.int .u16 a, .int .u16 b] ∧ p = [] ∧ (0 ≤ a ∧ a < 65536) ∧ (0 ≤ b ∧ b < 65536) := by
  obtain ⟨cs, rfl, _⟩ := okWide_arr und_dbl hv
  obtain ⟨fuel, hf⟩ := h
  obtain ⟨a, b, h1, h2, h3, h4⟩ := trod_dbl hf
  refine ⟨a, b, ?_, h2, h3, h4⟩
  have e : cs.toList = [.int .u16 a, .int .u16 b] := by simpa [Value.cells] using h1
  rw [← Array.toArray_toList (xs := cs), e]

end
end Go.Proofs.YtbbhppjamighdaaDoor
