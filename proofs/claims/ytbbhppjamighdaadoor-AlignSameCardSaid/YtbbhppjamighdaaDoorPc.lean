/- Plain words and laws: integer square roots, products of three numbers, the size of a normalized vector. No Go in it. -/
import Derived.Test.YtbbhppjamighdaaDoorDc
namespace Go.Proofs.YtbbhppjamighdaaDoor
set_option linter.unusedSimpArgs false
set_option linter.unusedVariables false
open Go.RowKit

theorem root_ex : ∀ n : Nat, ∃ r : Nat, r * r ≤ n ∧ n < (r + 1) * (r + 1)
  | 0 => ⟨0, by decide, by decide⟩
  | n + 1 => by
    obtain ⟨r, h1, h2⟩ := root_ex n
    by_cases h : (r + 1) * (r + 1) ≤ n + 1
    · refine ⟨r + 1, h, ?_⟩
      have : (r + 1 + 1) * (r + 1 + 1) = (r + 1) * (r + 1) + (r + 1) + (r + 1) + 1 := by simp only [Nat.mul_add, Nat.add_mul]; omega
      omega
    · exact ⟨r, by omega, by omega⟩
theorem root_exI (n : Int) (h : 0 ≤ n) : ∃ r : Int, 0 ≤ r ∧ r * r ≤ n ∧ n < (r + 1) * (r + 1) := by
  obtain ⟨r, h1, h2⟩ := root_ex n.toNat
  refine ⟨r, Int.natCast_nonneg r, ?_, ?_⟩
  · have : ((r * r : Nat) : Int) ≤ (n.toNat : Int) := by exact_mod_cast h1
    rw [Int.natCast_mul] at this; omega
  · have : (n.toNat : Int) < (((r + 1) * (r + 1) : Nat) : Int) := by exact_mod_cast h2
    rw [Int.natCast_mul, Int.natCast_add] at this
    have e : ((1 : Nat) : Int) = 1 := rfl
    rw [e] at this
    omega
/-- The greatest integer whose square is at most n. -/
noncomputable def isq (n : Int) : Int := if h : 0 ≤ n then Classical.choose (root_exI n h) else 0
theorem isq_spec (n : Int) (h : 0 ≤ n) : 0 ≤ isq n ∧ isq n * isq n ≤ n ∧ n < (isq n + 1) * (isq n + 1) := by
  unfold isq; rw [dif_pos h]; exact Classical.choose_spec (root_exI n h)
theorem sq_lt (a b : Int) (ha : 0 ≤ a) (hb : 0 ≤ b) (h : a * a < b * b) : a < b := by
  by_cases hc : a < b
  · exact hc
  · have : b * b ≤ a * a := Int.mul_le_mul (by omega) (by omega) hb ha
    omega
theorem sq_le (a b : Int) (ha : 0 ≤ a) (h : a ≤ b) : a * a ≤ b * b := Int.mul_le_mul h h ha (by omega)
theorem isq_unique (n r : Int) (h0 : 0 ≤ r) (h1 : r * r ≤ n) (h2 : n < (r + 1) * (r + 1)) : isq n = r := by
  have hn : 0 ≤ n := by have := Int.mul_nonneg h0 h0; omega
  obtain ⟨g0, g1, g2⟩ := isq_spec n hn
  have a := sq_lt r (isq n + 1) h0 (by omega) (by omega)
  have b := sq_lt (isq n) (r + 1) g0 (by omega) (by omega)
  omega
theorem isq_le (n m : Int) (h : 0 ≤ n) (hm : 0 ≤ m) (h2 : n < (m + 1) * (m + 1)) : isq n ≤ m := by
  obtain ⟨g0, g1, g2⟩ := isq_spec n h
  have := sq_lt (isq n) (m + 1) g0 (by omega) (by omega)
  omega
theorem isq_ge (n m : Int) (hm : 0 ≤ m) (h2 : m * m ≤ n) : m ≤ isq n := by
  have h : 0 ≤ n := by have := Int.mul_nonneg hm hm; omega
  obtain ⟨g0, g1, g2⟩ := isq_spec n h
  have := sq_lt m (isq n + 1) hm (by omega) (by omega)
  omega
/-- The integer nearest to the root. -/
noncomputable def nsq (n : Int) : Int := if isq n * isq n + isq n < n then isq n + 1 else isq n

theorem sq_add (r d : Int) : (r + d) * (r + d) = r * r + 2 * (r * d) + d * d := by
  rw [Int.add_mul, Int.mul_add, Int.mul_add, Int.mul_comm d r]; omega

/-- One round of the search bit by bit. -/
theorem bit_step (n r k : Int) (hk0 : 0 ≤ k) (hk1 : k ≤ 30) (h0 : 0 ≤ r) (h1 : r * r ≤ n) (h2 : n < (r + pw (31 - k)) * (r + pw (31 - k))) (h3 : r + pw (31 - k) ≤ 2147483648) :
    0 ≤ r + pw (30 - k) ∧ r + pw (30 - k) ≤ 2147483648 ∧
    ((r + pw (30 - k)) * (r + pw (30 - k)) ≤ n → n < (r + pw (30 - k) + pw (31 - (k + 1))) * (r + pw (30 - k) + pw (31 - (k + 1))) ∧ r + pw (30 - k) + pw (31 - (k + 1)) ≤ 2147483648) ∧
    (¬ (r + pw (30 - k)) * (r + pw (30 - k)) ≤ n → n < (r + pw (31 - (k + 1))) * (r + pw (31 - (k + 1))) ∧ r + pw (31 - (k + 1)) ≤ 2147483648) := by
  have e : pw (31 - k) = 2 * pw (30 - k) := by rw [← pw_succ (30 - k) (by omega)]; congr 1; omega
  have e2 : pw (31 - (k + 1)) = pw (30 - k) := by congr 1; omega
  have p := pw_pos (30 - k)
  rw [e2]
  rw [e] at h2 h3
  refine ⟨by omega, by omega, fun h => ?_, fun h => ⟨by omega, by omega⟩⟩
  rw [show r + pw (30 - k) + pw (30 - k) = r + 2 * pw (30 - k) from by omega]
  exact ⟨h2, h3⟩

theorem sqn (x : Int) : 0 ≤ x * x := by
  rcases Int.le_total 0 x with h | h
  · exact Int.mul_nonneg h h
  · have := Int.mul_nonneg (show 0 ≤ -x by omega) (show 0 ≤ -x by omega)
    rwa [Int.neg_mul_neg] at this

/-! ### Products of three numbers -/
/-- A word, said at once. -/
def W16 (x : Int) : Prop := 0 ≤ x ∧ x < 65536
theorem W16.mk {x : Int} (h0 : 0 ≤ x) (h1 : x < 65536) : W16 x := ⟨h0, h1⟩
theorem W16.hi {v : Int} (h0 : -268435455 ≤ v) (h1 : v ≤ 268435455) : W16 (hi v) := by have := hi_lo v h0 h1; exact ⟨by omega, by omega⟩
theorem W16.lo {v : Int} (h0 : -268435455 ≤ v) (h1 : v ≤ 268435455) : W16 (lo v) := by have := hi_lo v h0 h1; exact ⟨by omega, by omega⟩

def dot (a b c x y z : Int) : Int := a * x + b * y + c * z
theorem dot_size (a b c x y z : Int) (ha : -268435455 ≤ a) (ha' : a ≤ 268435455) (hb : -268435455 ≤ b) (hb' : b ≤ 268435455) (hc : -268435455 ≤ c) (hc' : c ≤ 268435455)
    (hx : -268435455 ≤ x) (hx' : x ≤ 268435455) (hy : -268435455 ≤ y) (hy' : y ≤ 268435455) (hz : -268435455 ≤ z) (hz' : z ≤ 268435455) :
    (-72057593501057025 ≤ a * x ∧ a * x ≤ 72057593501057025) ∧ (-72057593501057025 ≤ b * y ∧ b * y ≤ 72057593501057025) ∧ (-72057593501057025 ≤ c * z ∧ c * z ≤ 72057593501057025) := by
  have h1 := mul_size' a x 268435455 268435455 (by omega) (by omega) ha ha' hx hx'
  have h2 := mul_size' b y 268435455 268435455 (by omega) (by omega) hb hb' hy hy'
  have h3 := mul_size' c z 268435455 268435455 (by omega) (by omega) hc hc' hz hz'
  refine ⟨⟨?_, ?_⟩, ⟨?_, ?_⟩, ⟨?_, ?_⟩⟩ <;> omega
theorem mul_bd (a x : Int) (ha : -268435455 ≤ a) (ha' : a ≤ 268435455) (hx : -268435455 ≤ x) (hx' : x ≤ 268435455) : -72057593501057025 ≤ a * x ∧ a * x ≤ 72057593501057025 := by
  have h1 := mul_size' a x 268435455 268435455 (by omega) (by omega) ha ha' hx hx'
  omega
end Go.Proofs.YtbbhppjamighdaaDoor
