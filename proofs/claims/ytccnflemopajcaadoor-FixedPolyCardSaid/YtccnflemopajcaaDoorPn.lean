/- Plain laws of chapter 16: nearest products, quotients and roots. No Go in it. -/
import Derived.Test.YtccnflemopajcaaDoorFd
import Derived.Test.YtccnflemopajcaaDoorFm
import Derived.Test.YtccnflemopajcaaDoorFr
import Derived.Test.YtccnflemopajcaaDoorPc
namespace Go.Proofs.YtccnflemopajcaaDoor
set_option linter.unusedSimpArgs false
set_option linter.unusedVariables false
open Go.RowKit

theorem mag_le (v m : Int) (h0 : -m ≤ v) (h1 : v ≤ m) : mag v ≤ m := by unfold mag; split <;> omega
theorem mulv_comm (a b : Int) : mulv b a = mulv a b := by unfold mulv; rw [Int.mul_comm]
theorem mulv_neg (a b : Int) : mulv (-a) b = -mulv a b := by unfold mulv; rw [Int.neg_mul, rnd_neg _ _ (by omega)]
theorem mulv_near (a b : Int) : -134217728 ≤ mulv a b * 268435456 - a * b ∧ mulv a b * 268435456 - a * b ≤ 134217728 := by
  have := rnd_near (a * b) 268435456 (by omega)
  unfold mulv; omega
theorem mtv_near (a b : Int) : -8192 ≤ mtv a b * 16384 - a * b ∧ mtv a b * 16384 - a * b ≤ 8192 := by
  have := rnd_near (a * b) 16384 (by omega)
  unfold mtv; omega
theorem mtv_round (a b : Int) : -1 ≤ rnd (mtv a b) 16384 - mulv a b ∧ rnd (mtv a b) 16384 - mulv a b ≤ 1 := by
  have h := mulv_near a b
  have k := mtv_near a b
  have l := rnd_near (mtv a b) 16384 (by omega)
  omega
theorem div_near (v w : Int) (h0 : -268435455 ≤ w) (h1 : w ≤ 268435455) (h : mag v < mag w) :
    -mag w ≤ 2 * (dvv v w * w - v * 268435456) ∧ 2 * (dvv v w * w - v * 268435456) ≤ mag w := by
  have hw := (dv_size v w h0 h1 h).1
  unfold dvv
  rw [if_pos h]
  have l := rnd_near ((if w < 0 then -v else v) * 268435456) (mag w) (by omega)
  generalize rnd ((if w < 0 then -v else v) * 268435456) (mag w) = r at *
  by_cases hn : w < 0
  · rw [if_pos hn] at l
    have e : mag w = -w := by unfold mag; rw [if_pos hn]
    rw [e] at l ⊢
    have e1 : r * -w = -(r * w) := Int.mul_neg _ _
    have e2 : -v * 268435456 = -(v * 268435456) := Int.neg_mul _ _
    omega
  · rw [if_neg hn] at l
    have e : mag w = w := by unfold mag; rw [if_neg hn]
    rw [e] at l ⊢
    omega
theorem div_sign (v w : Int) (h0 : -268435455 ≤ w) (h1 : w ≤ 268435455) (h : mag v < mag w) (hx : dvv v w ≠ 0) :
    (dvv v w < 0) = ((v < 0 ∧ ¬ w < 0) ∨ (¬ v < 0 ∧ w < 0)) := by
  have hw := (dv_size v w h0 h1 h).1
  unfold dvv at hx ⊢
  rw [if_pos h] at hx ⊢
  apply propext
  by_cases hn : w < 0
  · rw [if_pos hn] at hx ⊢
    by_cases hv : v < 0
    · have := rnd_nonneg (-v * 268435456) (mag w) (by omega) (by omega)
      omega
    · have := rnd_nonpos (-v * 268435456) (mag w) (by omega) (by omega)
      omega
  · rw [if_neg hn] at hx ⊢
    by_cases hv : v < 0
    · have := rnd_nonpos (v * 268435456) (mag w) (by omega) (by omega)
      omega
    · have := rnd_nonneg (v * 268435456) (mag w) (by omega) (by omega)
      omega
theorem div_back (v w : Int) (h0 : -268435455 ≤ w) (h1 : w ≤ 268435455) (h : mag v < mag w) : mulv (dvv v w) w = v := by
  have hw := (dv_size v w h0 h1 h).1
  have a := div_near v w h0 h1 h
  have b := mulv_near (dvv v w) w
  omega
theorem nsq_exact (n : Int) (h : 0 ≤ n) : 0 ≤ nsq n ∧ n ≤ nsq n * nsq n + nsq n ∧ (0 < nsq n → nsq n * nsq n - nsq n < n) := by
  obtain ⟨i0, i1, i2⟩ := isq_spec n h
  have e : (isq n + 1) * (isq n + 1) = isq n * isq n + 2 * isq n + 1 := by grind
  rw [e] at i2
  unfold nsq
  split
  · rw [e]; omega
  · omega
theorem nsq_mono (n m : Int) (h0 : 0 ≤ n) (h : n ≤ m) : nsq n ≤ nsq m := by
  have a := nsq_exact n h0
  have b := nsq_exact m (by omega)
  rcases (show nsq n ≤ nsq m ∨ nsq m + 1 ≤ nsq n by omega) with g | g
  · exact g
  · exfalso
    have q := sq_le (nsq m + 1) (nsq n) (by omega) g
    have e : (nsq m + 1) * (nsq m + 1) = nsq m * nsq m + 2 * nsq m + 1 := by grind
    have c := a.2.2 (by omega)
    -- nsq n * (nsq n - 1) ≥ (nsq m + 1) * nsq m ≥ m
    have d : (nsq m + 1) * nsq m ≤ nsq n * (nsq n - 1) := Int.mul_le_mul g (by omega) b.1 (by omega)
    have e1 : (nsq m + 1) * nsq m = nsq m * nsq m + nsq m := by grind
    have e2 : nsq n * (nsq n - 1) = nsq n * nsq n - nsq n := by grind
    omega
end Go.Proofs.YtccnflemopajcaaDoor
