/- The size of a number over chapter 16. -/
import Derived.Test.YtccnflemopajcaaDoorPn
import Derived.Test.YtccnflemopajcaaDoorKg
namespace Go.Proofs.YtccnflemopajcaaDoor
set_option linter.unusedSimpArgs false
set_option linter.unusedVariables false
open Go.RowKit

theorem size16 (v : Int) (h0 : -9223372036854775807 ≤ v) (h1 : v ≤ 9223372036854775807) (w : World) :
    Calls Tryd.prog 19 #[.int .i64 v] w fun e w' => e = .returned (.int .i64 (mag v)) ∧ w = w' := by
  have hm : max v (-v) = mag v := by unfold mag; split <;> omega
  go_enter Tryd.func19, Tryd.ntmps19
  go_wp2
  go_ret
  exact ⟨rfl, rfl⟩
theorem size16_le (v m : Int) (h0 : -m ≤ v) (h1 : v ≤ m) (hm : m ≤ 9223372036854775807) : ∃ s : Int, (0 ≤ s ∧ s ≤ m) ∧ (∀ w, Calls Tryd.prog 19 #[.int .i64 (v)] w fun e w' => e = .returned (.int .i64 (s)) ∧ w = w') := by
  have hl := mag_le v m h0 h1
  refine ⟨mag v, ⟨by unfold mag; split <;> omega, hl⟩, fun w => size16 v (by omega) (by omega) w⟩
end Go.Proofs.YtccnflemopajcaaDoor
