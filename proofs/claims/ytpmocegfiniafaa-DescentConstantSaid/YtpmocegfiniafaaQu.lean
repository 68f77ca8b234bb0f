/- Plain laws of Command: every piece of it is odd; where a constant acceleration leads, it is that acceleration. -/
import Derived.Test.YtpmocegfiniafaaQj
import Derived.Test.YtpmocegfiniafaaPv
namespace Go.Proofs.Ytpmocegfiniafaa
set_option linter.unusedSimpArgs false
set_option linter.unusedVariables false
open Go.RowKit

theorem outb_ng (v m : Int) : outb (-v) m = outb v m := by
  unfold outb; exact decide_eq_decide.2 ⟨fun h => by omega, fun h => by omega⟩
theorem shl_ng (v n : Int) : shl (-v) n = -shl v n := by unfold shl; rw [Int.neg_mul]
theorem shv_ng (v n : Int) : shv (-v) n = -shv v n := by
  unfold shv
  split
  · exact rnd_neg _ _ (pw_pos _)
  · rw [shl_ng, sat_ng _ _ (by omega)]
theorem mag_ng (v : Int) : mag (-v) = mag v := by unfold mag; split <;> split <;> omega
theorem mulv_ng (a b : Int) : mulv (-a) b = -mulv a b := by unfold mulv; rw [Int.neg_mul, rnd_neg _ _ (by omega)]
theorem dvo_ng (v w : Int) : dvo (-v) w = dvo v w := by unfold dvo; rw [mag_ng]
theorem dvv_ng (v w : Int) : dvv (-v) w = -dvv v w := by
  unfold dvv
  rw [mag_ng]
  split
  · rename_i h
    have hw : 0 < mag w := by have := mag_nonneg v; omega
    split
    · rw [Int.neg_mul (-v), rnd_neg _ _ hw]
    · rw [Int.neg_mul, rnd_neg _ _ hw]
  · by_cases h0 : v = 0
    · subst h0; rfl
    · rw [if_neg (by omega), if_neg h0]
      split <;> split <;> split <;> omega
theorem cmg_ng (sr tr T : Int) : cmg (-sr) (-tr) T = -cmg sr tr T := by
  unfold cmg; rw [show -tr - -sr = -(tr - sr) by omega, sat_ng _ _ (by omega), mulv_ng]
theorem cmh_ng (sr tr T : Int) : cmh (-sr) (-tr) T = -cmh sr tr T := by unfold cmh; rw [cmg_ng, dvv_ng]
theorem cmp_ng (sr tr T : Int) : cmp' (-sr) (-tr) T = -cmp' sr tr T := by unfold cmp'; rw [cmh_ng, dvv_ng]
theorem cmv_ng (sv tv : Int) : cmv (-sv) (-tv) = -cmv sv tv := by
  unfold cmv; rw [shv_ng, shv_ng, show -shv sv (-2) + -shv tv (-3) = -(shv sv (-2) + shv tv (-3)) by omega, sat_ng _ _ (by omega)]
theorem cmu_ng (sv tv T : Int) : cmu (-sv) (-tv) T = -cmu sv tv T := by unfold cmu; rw [cmv_ng, dvv_ng]
theorem cmc_ng (sr sv tr tv T : Int) : cmc (-sr) (-sv) (-tr) (-tv) T = -cmc sr sv tr tv T := by
  unfold cmc; rw [cmp_ng, cmu_ng, show -cmp' sr tr T - -cmu sv tv T = -(cmp' sr tr T - cmu sv tv T) by omega, sat_ng _ _ (by omega)]
theorem cm1_ng (sr tr T : Int) : cm1 (-sr) (-tr) T = cm1 sr tr T := by unfold cm1; rw [cmg_ng, dvo_ng]
theorem cm2_ng (sr tr T : Int) : cm2 (-sr) (-tr) T = cm2 sr tr T := by unfold cm2; rw [cmh_ng, dvo_ng]
theorem cm3_ng (sv tv T : Int) : cm3 (-sv) (-tv) T = cm3 sv tv T := by unfold cm3; rw [cmv_ng, dvo_ng]
theorem cma_ng (sr tr : Int) : cma (-sr) (-tr) = cma sr tr := by unfold cma; rw [show -tr - -sr = -(tr - sr) by omega, outb_ng]
theorem cmb_ng (sv tv : Int) : cmb (-sv) (-tv) = cmb sv tv := by
  unfold cmb; rw [shv_ng, shv_ng, show -shv sv (-2) + -shv tv (-3) = -(shv sv (-2) + shv tv (-3)) by omega, outb_ng]
theorem cmd_ng (sr sv tr tv T : Int) : cmd (-sr) (-sv) (-tr) (-tv) T = cmd sr sv tr tv T := by
  unfold cmd; rw [cmp_ng, cmu_ng, show -cmp' sr tr T - -cmu sv tv T = -(cmp' sr tr T - cmu sv tv T) by omega, outb_ng]

theorem dvv_exact (v T t : Int) (hT : 0 < T) (e : T * t = 268435456) (h : dvo v T = false) : dvv v T = v * t := by
  have hm : mag v < mag T := by unfold dvo at h; simpa using h
  have hT' : mag T = T := by unfold mag; rw [if_neg (by omega)]
  unfold dvv
  rw [if_pos hm, if_neg (by omega), hT', show v * 268435456 = v * t * T by rw [← e, Int.mul_comm T t, Int.mul_assoc]]
  exact rnd_mul _ _ hT

/-- Where a constant acceleration leads, and no division overflows, the command is that acceleration. -/
theorem cmc_const (x y t T : Int) (hx0 : -32768 ≤ x) (hx1 : x ≤ 32767) (hy0 : -32768 ≤ y) (hy1 : y ≤ 32767)
    (ht : t = 2 ∧ T = 134217728 ∨ t = 4 ∧ T = 67108864 ∨ t = 8 ∧ T = 33554432 ∨ t = 16 ∧ T = 16777216 ∨ t = 32 ∧ T = 8388608 ∨ t = 64 ∧ T = 4194304)
    (h1 : cm1 0 (8 * x + 8 * y) T = false) (h2 : cm2 0 (8 * x + 8 * y) T = false) (h3 : cm3 (8 * t * x) (8 * t * x + 16 * t * y) T = false) :
    cmc 0 (8 * t * x) (8 * x + 8 * y) (8 * t * x + 16 * t * y) T = t * t * y := by
  have hT : 0 < T := by omega
  have he : T * t = 268435456 := by rcases ht with h | h | h | h | h | h <;> (obtain ⟨rfl, rfl⟩ := h; rfl)
  have eg : cmg 0 (8 * x + 8 * y) T = 3 * (x + y) := by
    unfold cmg mulv
    rw [sat_in _ _ (by omega) (by omega), show (8 * x + 8 * y - 0) * 100663296 = 3 * (x + y) * 268435456 by omega]
    exact rnd_mul _ _ (by omega)
  have eh : cmh 0 (8 * x + 8 * y) T = 3 * (x + y) * t := by
    unfold cmh; rw [dvv_exact _ T t hT he h1, eg]
  have ep : cmp' 0 (8 * x + 8 * y) T = 3 * (x + y) * t * t := by
    unfold cmp'; rw [dvv_exact _ T t hT he h2, eh]
  have q1 : shv (8 * t * x) (-2) = 2 * t * x := by
    rw [shv_neg _ _ (by omega), show pw (min (- -2) 56) = 4 by decide +kernel, show 8 * t * x = 2 * t * x * 4 by rw [show 8 * t = 4 * (2 * t) by omega, Int.mul_assoc 4, Int.mul_comm 4]]
    exact rnd_mul _ _ (by omega)
  have q2 : shv (8 * t * x + 16 * t * y) (-3) = t * x + 2 * t * y := by
    rw [shv_neg _ _ (by omega), show pw (min (- -3) 56) = 8 by decide +kernel, show 8 * t * x + 16 * t * y = (t * x + 2 * t * y) * 8 by
      rw [show 8 * t = t * 8 by omega, show 16 * t = 2 * t * 8 by omega, Int.add_mul, Int.mul_right_comm t x 8, Int.mul_right_comm (2 * t) y 8]]
    exact rnd_mul _ _ (by omega)
  have ev : cmv (8 * t * x) (8 * t * x + 16 * t * y) = 3 * (t * x) + 2 * (t * y) := by
    unfold cmv
    rw [q1, q2, Int.mul_assoc 2 t x, Int.mul_assoc 2 t y]
    have b1 : -4194304 ≤ t * x ∧ t * x ≤ 4194304 := by rcases ht with h | h | h | h | h | h <;> (obtain ⟨rfl, rfl⟩ := h; constructor <;> omega)
    have b2 : -4194304 ≤ t * y ∧ t * y ≤ 4194304 := by rcases ht with h | h | h | h | h | h <;> (obtain ⟨rfl, rfl⟩ := h; constructor <;> omega)
    rw [sat_in _ _ (by omega) (by omega)]; omega
  have eu : cmu (8 * t * x) (8 * t * x + 16 * t * y) T = (3 * (t * x) + 2 * (t * y)) * t := by
    unfold cmu; rw [dvv_exact _ T t hT he h3, ev]
  unfold cmc
  rw [ep, eu]
  rcases ht with h | h | h | h | h | h <;> (obtain ⟨rfl, rfl⟩ := h; rw [sat_in _ _ (by omega) (by omega)]; omega)
end Go.Proofs.Ytpmocegfiniafaa
