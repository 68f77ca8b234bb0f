/- Plain words on ones'-complement numbers: the value of a word, of a double, of a triple; the canonical double and triple of a value; saturation and rounding. No Go in it. -/
import Derived.WalkKit
namespace Go.Proofs.YtbbhppjamighdaaDoor
set_option linter.unusedSimpArgs false
set_option linter.unusedVariables false
open Go.RowKit

/-- The value of a word. -/
def wv (x : Int) : Int := if 16384 ≤ x % 32768 then x % 32768 - 32767 else x % 32768
/-- The value of a double, of a triple. -/
def val (x y : Int) : Int := wv x * 16384 + wv y
def tval (x y z : Int) : Int := (wv x * 16384 + wv y) * 16384 + wv z
/-- The words of the canonical double. -/
def hi (v : Int) : Int := if v < 0 then 32767 - (-v) / 16384 else v / 16384
def lo (v : Int) : Int := if v < 0 then 32767 - (-v) % 16384 else v % 16384
/-- The words of the canonical triple (the last is 'lo'). -/
def th (v : Int) : Int := if v < 0 then 32767 - (-v) / 268435456 else v / 268435456
def tm (v : Int) : Int := if v < 0 then 32767 - (-v) / 16384 % 16384 else v / 16384 % 16384
def sat (v m : Int) : Int := if m < v then m else if v < -m then -m else v
def outb (v m : Int) : Bool := decide (m < v ∨ v < -m)
/-- p / q, rounded to the nearest integer, halves away from zero. -/
def rndN (p q : Int) : Int := if q - p % q ≤ p % q then p / q + 1 else p / q
def rnd (p q : Int) : Int := if p < 0 then -rndN (-p) q else rndN p q

theorem u16_and32767 (x : Int) (h0 : 0 ≤ x) (h1 : x < 65536) : bits .and .u16 x 32767 = x % 32768 :=
  bits_mask .u16 16 (by decide) (fun n h₀ h₁ => by rw [IntKind.wrap_u16]; omega) 15 (by decide) x h0 h1

theorem u64_and16383 (x : Int) (h0 : 0 ≤ x) (h1 : x < 18446744073709551616) : bits .and .u64 x 16383 = x % 16384 :=
  bits_mask .u64 64 (by decide) (fun n h₀ h₁ => by rw [IntKind.wrap_u64]; omega) 14 (by decide) x h0 h1
theorem wv_lo (x : Int) : -16383 ≤ wv x := by unfold wv; split <;> omega
theorem wv_hi (x : Int) : wv x ≤ 16383 := by unfold wv; split <;> omega
theorem val_lo (x y : Int) : -268435455 ≤ val x y := by unfold val; have := wv_lo x; have := wv_lo y; omega
theorem val_hi (x y : Int) : val x y ≤ 268435455 := by unfold val; have := wv_hi x; have := wv_hi y; omega
theorem tval_lo (x y z : Int) : -4398046511103 ≤ tval x y z := by unfold tval; have := wv_lo x; have := wv_lo y; have := wv_lo z; omega
theorem tval_hi (x y z : Int) : tval x y z ≤ 4398046511103 := by unfold tval; have := wv_hi x; have := wv_hi y; have := wv_hi z; omega
theorem sat_lo (v m : Int) (h : 0 ≤ m) : -m ≤ sat v m := by unfold sat; (repeat' split) <;> omega
theorem sat_hi (v m : Int) (h : 0 ≤ m) : sat v m ≤ m := by unfold sat; (repeat' split) <;> omega
theorem sat_in (v m : Int) (h0 : -m ≤ v) (h1 : v ≤ m) : sat v m = v := by unfold sat; rw [if_neg (by omega), if_neg (by omega)]
theorem outb_in (v m : Int) (h0 : -m ≤ v) (h1 : v ≤ m) : outb v m = false := by unfold outb; exact decide_eq_false (by omega)
theorem hi_lo (v : Int) (h0 : -268435455 ≤ v) (h1 : v ≤ 268435455) : 0 ≤ hi v ∧ hi v < 32768 ∧ 0 ≤ lo v ∧ lo v < 32768 := by
  unfold hi lo; refine ⟨?_, ?_, ?_, ?_⟩ <;> split <;> omega
/-- The value of the canonical double of v is v. -/
theorem val_of (v : Int) (h0 : -268435455 ≤ v) (h1 : v ≤ 268435455) : val (hi v) (lo v) = v := by
  unfold val wv hi lo
  by_cases h : v < 0
  · simp only [if_pos h]; split <;> split <;> omega
  · simp only [if_neg h]; split <;> split <;> omega
theorem tri_lo (v : Int) (h0 : -4398046511103 ≤ v) (h1 : v ≤ 4398046511103) : 0 ≤ th v ∧ th v < 32768 ∧ 0 ≤ tm v ∧ tm v < 32768 ∧ 0 ≤ lo v ∧ lo v < 32768 := by
  unfold th tm lo; refine ⟨?_, ?_, ?_, ?_, ?_, ?_⟩ <;> split <;> omega
theorem tval_of (v : Int) (h0 : -4398046511103 ≤ v) (h1 : v ≤ 4398046511103) : tval (th v) (tm v) (lo v) = v := by
  unfold tval wv th tm lo
  by_cases h : v < 0
  · simp only [if_pos h]; split <;> split <;> split <;> omega
  · simp only [if_neg h]; split <;> split <;> split <;> omega
theorem wrap64_in (n : Int) (h0 : -9223372036854775808 ≤ n) (h1 : n ≤ 9223372036854775807) : wrap64 n = n := IntWalk.wrap64_in n ⟨h0, h1⟩
end Go.Proofs.YtbbhppjamighdaaDoor
