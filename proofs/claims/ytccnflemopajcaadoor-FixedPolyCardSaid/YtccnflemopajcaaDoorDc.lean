/- bits.Len64 and Normal over this translation: the walk of Len64 is the shelf's worked one, turned to this translation. -/
import Derived.Test.YtccnflemopajcaaDoorDb
import Derived.Lib.Strings
import Derived.Lib.Slices
import Derived.Lib.Small
import Derived.Lib.Walk
import Derived.Lib.BitFns
namespace Go.Proofs.YtccnflemopajcaaDoor
set_option linter.unusedSimpArgs false
set_option linter.unusedVariables false
open Go.RowKit

/-! ### Normal -/
def nrn (v : Int) : Int := 28 - (Lib.bitLen v.natAbs : Int)


theorem bitLen28 (k : Nat) (h0 : 0 < k) (h1 : k ≤ 268435455) : 1 ≤ Lib.bitLen k ∧ Lib.bitLen k ≤ 28 ∧ 2 ^ (Lib.bitLen k - 1) ≤ k ∧ k < 2 ^ Lib.bitLen k := by
  have key : ∀ (n k : Nat), 0 < k → k < 2 ^ n → n ≤ 28 → 1 ≤ Lib.bitLen k ∧ 2 ^ (Lib.bitLen k - 1) ≤ k ∧ k < 2 ^ Lib.bitLen k := by
    intro n
    induction n with
    | zero => intro k a b; omega
    | succ n ih =>
      intro k a b c
      rw [Nat.pow_succ] at b
      have hk : k < 2 ^ 64 := by
        have : 2 ^ n ≤ 2 ^ 28 := Nat.pow_le_pow_right (by decide) (by omega)
        omega
      rw [Lib.bitLen_half k (by omega) hk]
      by_cases e : k / 2 = 0
      · have e1 : k = 1 := by omega
        subst e1
        decide
      · obtain ⟨i1, i2, i3⟩ := ih (k / 2) (by omega) (by omega) (by omega)
        have e2 : 1 + Lib.bitLen (k / 2) - 1 = (Lib.bitLen (k / 2) - 1) + 1 := by omega
        rw [e2, Nat.pow_succ, show 1 + Lib.bitLen (k / 2) = Lib.bitLen (k / 2) + 1 from by omega, Nat.pow_succ]
        exact ⟨by omega, by omega, by omega⟩
  obtain ⟨i1, i2, i3⟩ := key 28 k h0 (by omega) (by omega)
  exact ⟨i1, Lib.bitLen_le k 28 (by omega) (by omega), i2, i3⟩

theorem nrn_spec (v : Int) (hv : v ≠ 0) (h0 : -268435455 ≤ v) (h1 : v ≤ 268435455) : 0 ≤ nrn v ∧ nrn v ≤ 27 ∧ 134217728 ≤ mag v * pw (nrn v) ∧ mag v * pw (nrn v) < 268435456 := by
  have em : mag v = (v.natAbs : Int) := by unfold mag; split <;> omega
  obtain ⟨a, b, c, d⟩ := bitLen28 v.natAbs (by omega) (by omega)
  have e : nrn v = ((28 - Lib.bitLen v.natAbs : Nat) : Int) := by unfold nrn; omega
  refine ⟨by omega, by omega, ?_⟩
  have ep : pw (nrn v) = ((2 ^ (28 - Lib.bitLen v.natAbs) : Nat) : Int) := by
    unfold pw; rw [e]; simp
  rw [em, ep]
  generalize v.natAbs = k at *
  generalize hB : Lib.bitLen k = B at *
  have e1 : 2 ^ (B - 1) * 2 ^ (28 - B) = 134217728 := by rw [← Nat.pow_add, show B - 1 + (28 - B) = 27 from by omega]
  have e2 : 2 ^ B * 2 ^ (28 - B) = 268435456 := by rw [← Nat.pow_add, show B + (28 - B) = 28 from by omega]
  have g1 := Nat.mul_le_mul_right (2 ^ (28 - B)) c
  have g2 := Nat.mul_lt_mul_of_pos_right d (show 0 < 2 ^ (28 - B) from Nat.two_pow_pos _)
  have n1 : 134217728 ≤ k * 2 ^ (28 - B) := by omega
  have n2 : k * 2 ^ (28 - B) < 268435456 := by omega
  rw [← Int.natCast_mul]
  clear g1 g2 e1 e2 c d ep
  generalize k * 2 ^ (28 - B) = q at *
  exact ⟨by omega, by omega⟩

/-- The value shifted left till its magnitude is at least 2^27. -/
def nrv (v : Int) : Int := v * pw (nrn v)
theorem nrv_size (v : Int) (hv : v ≠ 0) (h0 : -268435455 ≤ v) (h1 : v ≤ 268435455) : -268435455 ≤ nrv v ∧ nrv v ≤ 268435455 ∧ (nrv v ≤ -134217728 ∨ 134217728 ≤ nrv v) := by
  obtain ⟨_, _, c, d⟩ := nrn_spec v hv h0 h1
  unfold nrv
  unfold mag at c d
  split at c
  · rename_i h
    rw [if_pos h] at d
    rw [Int.neg_mul] at c d
    omega
  · rename_i h
    rw [if_neg h] at d
    omega

end Go.Proofs.YtccnflemopajcaaDoor
