/- Comparing arrays: what '==' of two doubles (triples, vectors, matrices) gives over this translation. -/
import Derived.Test.YtbbhppjamighdaaDoorProg
import Derived.Test.YtbbhppjamighdaaDoorKa
import Derived.ChangeKeysEq
namespace Go.Proofs.YtbbhppjamighdaaDoor
set_option linter.unusedSimpArgs false
set_option linter.unusedVariables false
open Go.RowKit

theorem eq_dbl (d : Nat) (x y z u : Int) (w : World) : (Op.equalIn (d + 2) 25 (.agg #[.int .u16 x, .int .u16 y]) (.agg #[.int .u16 z, .int .u16 u])).run Tryd.prog w = .ok (x == z && y == u) w := by
  have hu : Tryd.prog.underlying 25 = some (.array 2 23) := by kernel_rfl
  have hc : Tryd.prog.cellsOf 23 = 1 := by kernel_rfl
  have hk : Tryd.prog.plainKey 23 = true := by kernel_rfl
  have hue : Tryd.prog.underlying 23 = some (.int .u16) := by kernel_rfl
  obtain ⟨i, hi⟩ : ∃ i, Tryd.prog.info? 23 = some i := ⟨_, rfl⟩
  rw [run_equalIn_array w (d + 1) _ _ hu hi, hc]
  have e1 := fun (a b : Int) => run_equalIn_int (P := Tryd.prog) w d 23 .u16 .u16 a b hue
  have p0 := fun (a b : Int) => run_part_plain (P := Tryd.prog) (xs := #[.int .u16 a, .int .u16 b]) (off := 0 * 1) (v := .int .u16 a) w hk rfl
  have p1 := fun (a b : Int) => run_part_plain (P := Tryd.prog) (xs := #[.int .u16 a, .int .u16 b]) (off := 1 * 1) (v := .int .u16 b) w hk rfl
  simp only [List.range, List.range.loop, Op.eqItems, Sem.run_bind, p0, e1, Result.andThen_ok]
  cases h0 : x == z
  · simp
  · simp only [Bool.not_true, Bool.false_eq_true, if_false, Sem.run_bind, p1, e1, Result.andThen_ok]
    cases h1 : y == u <;> simp

end Go.Proofs.YtbbhppjamighdaaDoor
