/- Plain words on the evaluation of a polynomial. No Go in it. -/
import Derived.Test.YtccnflemopajcaaDoorFa
namespace Go.Proofs.YtccnflemopajcaaDoor
set_option linter.unusedSimpArgs false
set_option linter.unusedVariables false
open Go.RowKit

/-- The value and the mark behind k rounds, the coefficient number i being c i, n of them. -/
def pst (X : Int) (c : Nat → Int) (n : Nat) : Nat → Int × Bool
  | 0 => (0, false)
  | k + 1 => (sat (mulv (pst X c n k).1 X + c (n - 1 - k)) 268435455, (pst X c n k).2 || outb (mulv (pst X c n k).1 X + c (n - 1 - k)) 268435455)
theorem pst_bd (X : Int) (c : Nat → Int) (n : Nat) : ∀ k, -268435455 ≤ (pst X c n k).1 ∧ (pst X c n k).1 ≤ 268435455
  | 0 => by show -268435455 ≤ (0 : Int) ∧ (0 : Int) ≤ 268435455; omega
  | k + 1 => ⟨sat_lo _ _ (by omega), sat_hi _ _ (by omega)⟩
end Go.Proofs.YtccnflemopajcaaDoor
