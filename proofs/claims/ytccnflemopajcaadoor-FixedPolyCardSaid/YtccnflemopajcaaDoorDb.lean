/- More contracts of package double over this translation: Cmp, Make, Shift, Normal. -/
import Derived.Test.YtccnflemopajcaaDoorDa
import Derived.Test.YtccnflemopajcaaDoorEq
import Derived.Lib.BitFns
namespace Go.Proofs.YtccnflemopajcaaDoor
set_option linter.unusedSimpArgs false
set_option linter.unusedVariables false
open Go.RowKit

def cmpv (a b : Int) : Int := if a = b then 0 else if a < b then -1 else 1
theorem dbl_neb (a b : Int) (h0 : -268435455 ≤ a) (h1 : a ≤ 268435455) (g0 : -268435455 ≤ b) (g1 : b ≤ 268435455) (h : a ≠ b) : (hi a == hi b && lo a == lo b) = false := by
  cases e : (hi a == hi b && lo a == lo b) with
  | false => rfl
  | true =>
    simp only [Bool.and_eq_true, beq_iff_eq] at e
    have x := val_of a h0 h1
    have y := val_of b g0 g1
    rw [e.1, e.2] at x
    omega
theorem dbl_ne (a b : Int) (h0 : -268435455 ≤ a) (h1 : a ≤ 268435455) (g0 : -268435455 ≤ b) (g1 : b ≤ 268435455) (h : a ≠ b) : ¬(hi a = hi b ∧ lo a = lo b) := fun ⟨e1, e2⟩ => by
  have x := val_of a h0 h1
  have y := val_of b g0 g1
  rw [e1, e2] at x
  omega



/-! ### Shift -/
def shl (v n : Int) : Int := v * pw (min n 29)
def shv (v n : Int) : Int := if n < 0 then rnd v (pw (min (-n) 56)) else sat (shl v n) 268435455
def sho (v n : Int) : Bool := if n < 0 then false else outb (shl v n) 268435455

theorem sho_neg (v n : Int) (h : n < 0) : sho v n = false := by unfold sho; rw [if_pos h]
theorem shv_neg (v n : Int) (h : n < 0) : shv v n = rnd v (pw (min (-n) 56)) := by unfold shv; rw [if_pos h]
theorem shv_nn (v n : Int) (h : 0 ≤ n) : shv v n = sat (shl v n) 268435455 := by unfold shv; rw [if_neg (by omega)]
theorem sho_nn (v n : Int) (h : 0 ≤ n) : sho v n = outb (shl v n) 268435455 := by unfold sho; rw [if_neg (by omega)]
theorem shv_size (v n : Int) (h0 : -268435455 ≤ v) (h1 : v ≤ 268435455) : -268435455 ≤ shv v n ∧ shv v n ≤ 268435455 := by
  unfold shv
  split
  · exact rnd_size v _ 268435455 (pw_pos _) (by omega) h0 h1
  · exact ⟨sat_lo _ _ (by omega), sat_hi _ _ (by omega)⟩


end Go.Proofs.YtccnflemopajcaaDoor
