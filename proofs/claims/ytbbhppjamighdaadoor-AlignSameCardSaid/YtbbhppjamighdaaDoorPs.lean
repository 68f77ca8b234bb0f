/- Plain words on the sine: the angle's reduction, the polynomial as it is evaluated. No Go in it. -/
import Derived.Test.YtbbhppjamighdaaDoorPb
namespace Go.Proofs.YtbbhppjamighdaaDoor
set_option linter.unusedSimpArgs false
set_option linter.unusedVariables false
open Go.RowKit

/-- The angle from -1/2 to 1/2, from -1/4 to 1/4 revolutions. -/
def red1 (v : Int) : Int := if 134217728 ≤ v % 268435456 then v % 268435456 - 268435456 else v % 268435456
def red (v : Int) : Int := if 67108864 < red1 v then 134217728 - red1 v else if red1 v < -67108864 then -134217728 - red1 v else red1 v
/-- The steps of the evaluation at z. -/
def sh1 (z : Int) : Int := -483 + rnd (z * 8) 268435456
def sh2 (z : Int) : Int := 21534 + rnd (z * sh1 z) 268435456
def sh3 (z : Int) : Int := -628374 + rnd (z * sh2 z) 268435456
def sh4 (z : Int) : Int := 10696163 + rnd (z * sh3 z) 268435456
def sh5 (z : Int) : Int := -86699834 + rnd (z * sh4 z) 268435456
def sh6 (z : Int) : Int := 210828714 + rnd (z * sh5 z) 268435456
/-- The square of the quarter's part. -/
def sz (u : Int) : Int := rnd (4 * u * (4 * u)) 268435456
/-- Half of the sine for u from -1/4 to 1/4 revolutions; for every v. -/
def sinq (u : Int) : Int := rnd (4 * u * sh6 (sz u)) 268435456
def sinv (v : Int) : Int := sinq (red v)

theorem red_bd (v : Int) : -67108864 ≤ red v ∧ red v ≤ 67108864 := by
  have h0 := Int.emod_nonneg v (b := 268435456) (by omega)
  have h1 := Int.emod_lt_of_pos v (b := 268435456) (by omega)
  have : -134217728 ≤ red1 v ∧ red1 v < 134217728 := by unfold red1; split <;> omega
  unfold red
  (repeat' split) <;> omega
theorem sz_bd (u : Int) (h0 : -67108864 ≤ u) (h1 : u ≤ 67108864) : (0 ≤ 4 * u * (4 * u) ∧ 4 * u * (4 * u) ≤ 72057594037927936) ∧ 0 ≤ sz u ∧ sz u ≤ 268435456 := by
  have a : 0 ≤ 4 * u * (4 * u) ∧ 4 * u * (4 * u) ≤ 72057594037927936 := by
    rcases Int.le_total 0 u with h | h
    · exact ⟨Int.mul_nonneg (by omega) (by omega), Int.mul_le_mul (show 4 * u ≤ 268435456 by omega) (show 4 * u ≤ 268435456 by omega) (by omega) (by omega)⟩
    · have e : 4 * u * (4 * u) = (-(4 * u)) * (-(4 * u)) := by rw [Int.neg_mul_neg]
      rw [e]
      exact ⟨Int.mul_nonneg (by omega) (by omega), Int.mul_le_mul (show -(4 * u) ≤ 268435456 by omega) (show -(4 * u) ≤ 268435456 by omega) (by omega) (by omega)⟩
  exact ⟨a, rnd_nonneg _ _ a.1 (by omega), rnd_le _ _ _ (by omega) a.2⟩
theorem step_pos (z h H : Int) (z0 : 0 ≤ z) (z1 : z ≤ 268435456) (h0 : 0 ≤ h) (h1 : h ≤ H) : (0 ≤ z * h ∧ z * h ≤ 268435456 * H) ∧ 0 ≤ rnd (z * h) 268435456 ∧ rnd (z * h) 268435456 ≤ H := by
  have a := Int.mul_nonneg z0 h0
  have b : z * h ≤ 268435456 * H := Int.mul_le_mul z1 h1 h0 (by omega)
  exact ⟨⟨a, b⟩, rnd_nonneg _ _ a (by omega), rnd_le _ _ _ (by omega) (by rw [Int.mul_comm H]; exact b)⟩
theorem step_neg (z h H : Int) (z0 : 0 ≤ z) (z1 : z ≤ 268435456) (h0 : -H ≤ h) (h1 : h ≤ 0) : (-(268435456 * H) ≤ z * h ∧ z * h ≤ 0) ∧ -H ≤ rnd (z * h) 268435456 ∧ rnd (z * h) 268435456 ≤ 0 := by
  have k := step_pos z (-h) H z0 z1 (by omega) (by omega)
  rw [Int.mul_neg, rnd_neg _ _ (by omega)] at k
  omega
theorem sh_bd (z : Int) (z0 : 0 ≤ z) (z1 : z ≤ 268435456) : ((0 ≤ z * 8 ∧ z * 8 ≤ 2147483648) ∧ -483 ≤ sh1 z ∧ sh1 z ≤ -475) ∧
    ((-129654325248 ≤ z * sh1 z ∧ z * sh1 z ≤ 0) ∧ 21051 ≤ sh2 z ∧ sh2 z ≤ 21534) ∧
    ((0 ≤ z * sh2 z ∧ z * sh2 z ≤ 5780489109504) ∧ -628374 ≤ sh3 z ∧ sh3 z ≤ -606840) ∧
    ((-168677861228544 ≤ z * sh3 z ∧ z * sh3 z ≤ 0) ∧ 10067789 ≤ sh4 z ∧ sh4 z ≤ 10696163) ∧
    ((0 ≤ z * sh4 z ∧ z * sh4 z ≤ 2871229392355328) ∧ -86699834 ≤ sh5 z ∧ sh5 z ≤ -76003671) ∧
    ((-23273309474914304 ≤ z * sh5 z ∧ z * sh5 z ≤ 0) ∧ 124128880 ≤ sh6 z ∧ sh6 z ≤ 210828714) := by
  have a1 := step_pos z (8) 8 z0 z1 (by omega) (by omega)
  have b1 : -483 ≤ sh1 z ∧ sh1 z ≤ -475 := by unfold sh1; omega
  have a2 := step_neg z (sh1 z) 483 z0 z1 (by omega) (by omega)
  have b2 : 21051 ≤ sh2 z ∧ sh2 z ≤ 21534 := by unfold sh2; omega
  have a3 := step_pos z (sh2 z) 21534 z0 z1 (by omega) (by omega)
  have b3 : -628374 ≤ sh3 z ∧ sh3 z ≤ -606840 := by unfold sh3; omega
  have a4 := step_neg z (sh3 z) 628374 z0 z1 (by omega) (by omega)
  have b4 : 10067789 ≤ sh4 z ∧ sh4 z ≤ 10696163 := by unfold sh4; omega
  have a5 := step_pos z (sh4 z) 10696163 z0 z1 (by omega) (by omega)
  have b5 : -86699834 ≤ sh5 z ∧ sh5 z ≤ -76003671 := by unfold sh5; omega
  have a6 := step_neg z (sh5 z) 86699834 z0 z1 (by omega) (by omega)
  have b6 : 124128880 ≤ sh6 z ∧ sh6 z ≤ 210828714 := by unfold sh6; omega
  exact ⟨⟨⟨by omega, by omega⟩, b1⟩, ⟨⟨by omega, by omega⟩, b2⟩, ⟨⟨by omega, by omega⟩, b3⟩, ⟨⟨by omega, by omega⟩, b4⟩, ⟨⟨by omega, by omega⟩, b5⟩, ⟨⟨by omega, by omega⟩, b6⟩⟩
theorem sin_bd (u : Int) (h0 : -67108864 ≤ u) (h1 : u ≤ 67108864) : (-56593910747136000 ≤ 4 * u * sh6 (sz u) ∧ 4 * u * sh6 (sz u) ≤ 56593910747136000) ∧ -210828714 ≤ sinq u ∧ sinq u ≤ 210828714 := by
  obtain ⟨_, z0, z1⟩ := sz_bd u h0 h1
  obtain ⟨_, _, _, _, _, _, c0, c1⟩ := sh_bd (sz u) z0 z1
  unfold sinq
  rcases Int.le_total 0 u with h | h
  · have a := step_pos (4 * u) (sh6 (sz u)) 210828714 (by omega) (by omega) (by omega) c1
    omega
  · have a := step_pos (-(4 * u)) (sh6 (sz u)) 210828714 (by omega) (by omega) (by omega) c1
    rw [Int.neg_mul, rnd_neg _ _ (by omega)] at a
    omega
end Go.Proofs.YtbbhppjamighdaaDoor
