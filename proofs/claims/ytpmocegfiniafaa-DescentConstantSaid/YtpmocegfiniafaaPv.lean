/- Plain facts on half units: the opposite, twice a vector, the length. -/
import Derived.Test.YtpmocegfiniafaaVue
namespace Go.Proofs.Ytpmocegfiniafaa
set_option linter.unusedSimpArgs false
set_option linter.unusedVariables false
open Go.RowKit

theorem sat_ng (v m : Int) (h : 0 ≤ m) : sat (-v) m = -sat v m := by unfold sat; (repeat' split) <;> omega
theorem mag_nonneg (v : Int) : 0 ≤ mag v := by unfold mag; split <;> omega
end Go.Proofs.Ytpmocegfiniafaa
