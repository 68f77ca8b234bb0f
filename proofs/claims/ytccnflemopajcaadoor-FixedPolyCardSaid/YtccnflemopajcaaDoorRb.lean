/- Contracts of the reference of layer 15 that loop: Shift and Normal. -/
import Derived.Test.YtccnflemopajcaaDoorRa
import Derived.Test.YtccnflemopajcaaDoorDc
namespace Go.Proofs.YtccnflemopajcaaDoor
set_option linter.unusedSimpArgs false
set_option linter.unusedVariables false
open Go.RowKit

theorem pw_add (j k : Int) (hj : 0 ≤ j) (hk : 0 ≤ k) : pw (j + k) = pw j * pw k := by
  unfold pw; rw [show (j + k).toNat = j.toNat + k.toNat from by omega, Int.pow_add]

theorem shl_stop (v n k : Int) (h0 : 0 ≤ k) (h1 : k ≤ n) (b0 : -536870910 ≤ v * pw k) (b1 : v * pw k ≤ 536870910)
    (h : k = n ∨ k = 56 ∨ outb (v * pw k) 268435455 = true) : sat (v * pw k) 268435455 = sat (shl v n) 268435455 ∧ outb (v * pw k) 268435455 = outb (shl v n) 268435455 := by
  unfold shl
  by_cases hv : v = 0
  · subst hv; simp
  have p1 := pw_pos k
  have hk : k ≤ 28 := by
    by_cases hk : k ≤ 28
    · exact hk
    · exfalso
      have p2 : 536870912 ≤ pw k := pw_mono 29 k (by omega)
      by_cases hp : 0 < v
      · have : 1 * pw k ≤ v * pw k := Int.mul_le_mul_of_nonneg_right (by omega) (by omega)
        omega
      · have : v * pw k ≤ -1 * pw k := Int.mul_le_mul_of_nonneg_right (by omega) (by omega)
        omega
  by_cases e : k = n
  · subst e; rw [show min k 29 = k from by omega]; exact ⟨rfl, rfl⟩
  have ho : outb (v * pw k) 268435455 = true := by rcases h with h | h | h <;> first | exact h | omega
  have hj : pw (min n 29) = pw k * pw (min n 29 - k) := by rw [← pw_add k _ h0 (by omega)]; congr 1; omega
  have p3 := pw_pos (min n 29 - k)
  have e2 : v * pw (min n 29) = v * pw k * pw (min n 29 - k) := by rw [hj, Int.mul_assoc]
  rw [ho]
  have ho' : 268435455 < v * pw k ∨ v * pw k < -268435455 := by simpa [outb] using ho
  rw [e2]
  generalize v * pw k = a at *
  generalize pw (min n 29 - k) = b at *
  rcases ho' with c | c
  · have : a * 1 ≤ a * b := Int.mul_le_mul_of_nonneg_left (by omega) (by omega)
    refine ⟨?_, ?_⟩
    · unfold sat; rw [if_pos c, if_pos (by omega)]
    · unfold outb; exact (decide_eq_true (by omega)).symm
  · have : (-a) * 1 ≤ (-a) * b := Int.mul_le_mul_of_nonneg_left (by omega) (by omega)
    rw [Int.neg_mul, Int.neg_mul] at this
    refine ⟨?_, ?_⟩
    · unfold sat; rw [if_neg (by omega), if_pos c, if_neg (by omega), if_pos (by omega)]
    · unfold outb; exact (decide_eq_true (by omega)).symm


theorem nrm_step (v k : Int) (hv : v ≠ 0) (h0 : -268435455 ≤ v) (h1 : v ≤ 268435455) (g0 : 0 ≤ k) (g1 : k < nrn v) : -134217728 < v * pw k ∧ v * pw k < 134217728 := by
  obtain ⟨_, _, _, d⟩ := nrn_spec v hv h0 h1
  have m0 : 0 ≤ mag v := by unfold mag; split <;> omega
  have e := pw_mono (k + 1) (nrn v) (by omega)
  rw [pw_succ k g0] at e
  have e2 := Int.mul_le_mul_of_nonneg_left e m0
  rw [Int.mul_left_comm] at e2
  have e3 : mag v * pw k < 134217728 := by omega
  unfold mag at e3
  split at e3
  · rename_i h
    rw [Int.neg_mul] at e3
    have := pw_pos k
    have : v * pw k ≤ 0 * pw k := Int.mul_le_mul_of_nonneg_right (by omega) (by omega)
    omega
  · have := pw_pos k
    have : 0 * pw k ≤ v * pw k := Int.mul_le_mul_of_nonneg_right (by omega) (by omega)
    omega

end Go.Proofs.YtccnflemopajcaaDoor
