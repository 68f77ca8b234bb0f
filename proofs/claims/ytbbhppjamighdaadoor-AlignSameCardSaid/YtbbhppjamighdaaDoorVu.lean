/- Contract of vector.Unit over this translation. -/
import Derived.Test.YtbbhppjamighdaaDoorVc
import Derived.Test.YtbbhppjamighdaaDoorEv
namespace Go.Proofs.YtbbhppjamighdaaDoor
set_option linter.unusedSimpArgs false
set_option linter.unusedVariables false
open Go.RowKit

/-- What Normal hands back, 0 included. -/
def nrh (v : Int) : Int := if v = 0 then 0 else hi (nrv v)
def nrl (v : Int) : Int := if v = 0 then 0 else lo (nrv v)
def nrc (v : Int) : Int := if v = 0 then 0 else nrn v
theorem normal_all (x y : Int) (hx0 : 0 ≤ x) (hx1 : x < 65536) (hy0 : 0 ≤ y) (hy1 : y < 65536) (w : World) :
    Calls Tryd.prog 69 #[(.agg #[.int .u16 (x), .int .u16 (y)])] w fun e w' => e = .returned (.tuple #[(.agg #[.int .u16 (nrh (val x y)), .int .u16 (nrl (val x y))]), .int .i64 (nrc (val x y))]) ∧ Below w.heap.size w w' := by
  unfold nrh nrl nrc
  by_cases h : val x y = 0
  · rw [if_pos h, if_pos h, if_pos h]
    exact normal_zero x y hx0 hx1 hy0 hy1 h w
  · rw [if_neg h, if_neg h, if_neg h]
    exact normal_any x y hx0 hx1 hy0 hy1 h w

set_option maxHeartbeats 400000 in
theorem unit_none (a b c d e f : Int) (ha0 : 0 ≤ a) (ha1 : a < 65536) (hb0 : 0 ≤ b) (hb1 : b < 65536) (hc0 : 0 ≤ c) (hc1 : c < 65536) (hd0 : 0 ≤ d) (hd1 : d < 65536) (he0 : 0 ≤ e) (he1 : e < 65536) (hf0 : 0 ≤ f) (hf1 : f < 65536) (h0 : val a b = 0) (h1 : val c d = 0) (h2 : val e f = 0) (w : World) :
    Calls Tryd.prog 40 #[(.agg #[.int .u16 (a), .int .u16 (b), .int .u16 (c), .int .u16 (d), .int .u16 (e), .int .u16 (f)])] w fun r w' => r = .returned (.tuple #[(.agg #[.int .u16 (0), .int .u16 (0), .int .u16 (0), .int .u16 (0), .int .u16 (0), .int .u16 (0)]), .bool true]) ∧ Below w.heap.size w w' := by
  have heq := @eq_i3
  have k0 : (val a b == 0) = true := by rw [h0]; rfl
  have k1 : (val c d == 0) = true := by rw [h1]; rfl
  have k2 : (val e f == 0) = true := by rw [h2]; rfl
  clear h0 h1 h2
  go_enter Tryd.func40, Tryd.ntmps40
  go_wp2_with fail
  refine (values_any a b c d e f ha0 ha1 hb0 hb1 hc0 hc1 hd0 hd1 he0 he1 hf0 hf1 _).mono ?_
  rintro _ r1 ⟨rfl, hbr1⟩
  obtain ⟨hcr1, hfr1⟩ := bcell hbr1
  have hzr1 := hbr1.size
  try simp only [World.size_alloc, World.size_setCell, World.size_drew] at hzr1
  have hlr1w0 : w.heap.size < r1.heap.size := by omega
  have hlr1w1 : w.heap.size + 1 < r1.heap.size := by omega
  go_wp2
  refine bodyPost_ret (v := .tuple #[(.agg #[.int .u16 (0), .int .u16 (0), .int .u16 (0), .int .u16 (0), .int .u16 (0), .int .u16 (0)]), .bool true]) (by simp [results, Tryd.results40, go_sem, *]) rfl ⟨rfl, ?_⟩; exact (by repeat' (first | (with_reducible exact Below.refl _ _) | (with_reducible refine bl_set ?_ _ ?_) | (with_reducible refine bl_alloc ?_ _) | (with_reducible refine bl_drew ?_) | (with_reducible refine bl_via (by with_reducible assumption) ?_) | (with_reducible assumption) | omega | (simp only []; omega) | (simp; omega)))


/-- How far a vector's components are shifted. -/
def ucnt (x y z : Int) : Int :=
  let c0 := if x = 0 then 28 else min 28 (nrc x)
  let c1 := if y = 0 then c0 else min c0 (nrc y)
  if z = 0 then c1 else min c1 (nrc z)
/-- The squares of a shifted vector, summed. -/
def usq (x y z : Int) : Int := x * pw (ucnt x y z) * (x * pw (ucnt x y z)) + y * pw (ucnt x y z) * (y * pw (ucnt x y z)) + z * pw (ucnt x y z) * (z * pw (ucnt x y z))
/-- A component of the half unit. -/
noncomputable def uni (x y z v : Int) : Int := sat (rnd (v * pw (ucnt x y z) * 134217728) (isq (usq x y z))) 268435455

theorem cell_far (w : World) (p a : Addr) (v : Value) (h : p.block ≠ a.block) : (w.setCell p v).cell? a = w.cell? a := World.cell?_setCell_other _ _ _ _ (fun e => h (congrArg Addr.block e))
theorem nrc_in (v : Int) (hv : v ≠ 0) (h0 : -268435455 ≤ v) (h1 : v ≤ 268435455) : 0 ≤ nrc v ∧ nrc v ≤ 27 ∧ -268435455 ≤ v * pw (nrc v) ∧ v * pw (nrc v) ≤ 268435455 ∧ (v * pw (nrc v) ≤ -134217728 ∨ 134217728 ≤ v * pw (nrc v)) := by
  have a := nrn_spec v hv h0 h1
  have b := nrv_size v hv h0 h1
  unfold nrc; rw [if_neg hv]
  unfold nrv at b
  exact ⟨a.1, a.2.1, b.1, b.2.1, b.2.2⟩
theorem shift_le (v E m : Int) (h : E ≤ m) (h0 : -268435455 ≤ v * pw m) (h1 : v * pw m ≤ 268435455) : -268435455 ≤ v * pw E ∧ v * pw E ≤ 268435455 := by
  have p := pw_pos E
  have q := pw_mono E m h
  rcases Int.le_total 0 v with hv | hv
  · have := Int.mul_le_mul_of_nonneg_left q hv
    have := Int.mul_nonneg hv (show 0 ≤ pw E by omega)
    omega
  · have := Int.mul_le_mul_of_nonneg_left q (show 0 ≤ -v by omega)
    have := Int.mul_nonneg (show 0 ≤ -v by omega) (show 0 ≤ pw E by omega)
    rw [Int.neg_mul] at *
    rw [Int.neg_mul] at *
    omega
theorem shift_in (v E : Int) (h0 : -268435455 ≤ v) (h1 : v ≤ 268435455) (h : v = 0 ∨ E ≤ nrc v) : -268435455 ≤ v * pw E ∧ v * pw E ≤ 268435455 := by
  by_cases hv : v = 0
  · rw [hv, Int.zero_mul]; omega
  · obtain ⟨_, _, c, d, _⟩ := nrc_in v hv h0 h1
    exact shift_le v E _ (by omega) c d
theorem big_sq (V : Int) (h : V ≤ -134217728 ∨ 134217728 ≤ V) : 18014398509481984 ≤ V * V := by
  rcases h with h | h
  · have := sq_le 134217728 (-V) (by omega) (by omega)
    rw [Int.neg_mul_neg] at this; omega
  · have := sq_le 134217728 V (by omega) h
    omega
theorem small_sq (V : Int) (h0 : -268435455 ≤ V) (h1 : V ≤ 268435455) : 0 ≤ V * V ∧ V * V ≤ 72057593501057025 := by
  have := mul_bd V V h0 h1 h0 h1
  have := sqn V
  omega
theorem unit_facts (x y z E : Int) (hx0 : -268435455 ≤ x) (hx1 : x ≤ 268435455) (hy0 : -268435455 ≤ y) (hy1 : y ≤ 268435455) (hz0 : -268435455 ≤ z) (hz1 : z ≤ 268435455)
    (hx : x = 0 ∨ E ≤ nrc x) (hy : y = 0 ∨ E ≤ nrc y) (hz : z = 0 ∨ E ≤ nrc z) (hm : x ≠ 0 ∧ E = nrc x ∨ y ≠ 0 ∧ E = nrc y ∨ z ≠ 0 ∧ E = nrc z) :
    (0 ≤ E ∧ E ≤ 27) ∧ (-268435455 ≤ x * pw E ∧ x * pw E ≤ 268435455) ∧ (-268435455 ≤ y * pw E ∧ y * pw E ≤ 268435455) ∧ (-268435455 ≤ z * pw E ∧ z * pw E ≤ 268435455) ∧
    (0 ≤ x * pw E * (x * pw E) ∧ x * pw E * (x * pw E) ≤ 72057593501057025) ∧ (0 ≤ y * pw E * (y * pw E) ∧ y * pw E * (y * pw E) ≤ 72057593501057025) ∧ (0 ≤ z * pw E * (z * pw E) ∧ z * pw E * (z * pw E) ≤ 72057593501057025) ∧
    18014398509481984 ≤ x * pw E * (x * pw E) + y * pw E * (y * pw E) + z * pw E * (z * pw E) ∧
    134217728 ≤ isq (x * pw E * (x * pw E) + y * pw E * (y * pw E) + z * pw E * (z * pw E)) ∧ isq (x * pw E * (x * pw E) + y * pw E * (y * pw E) + z * pw E * (z * pw E)) ≤ 536870911 := by
  have a := shift_in x E hx0 hx1 hx
  have b := shift_in y E hy0 hy1 hy
  have c := shift_in z E hz0 hz1 hz
  have a2 := small_sq _ a.1 a.2
  have b2 := small_sq _ b.1 b.2
  have c2 := small_sq _ c.1 c.2
  have d : (0 ≤ E ∧ E ≤ 27) ∧ 18014398509481984 ≤ x * pw E * (x * pw E) + y * pw E * (y * pw E) + z * pw E * (z * pw E) := by
    rcases hm with ⟨h, rfl⟩ | ⟨h, rfl⟩ | ⟨h, rfl⟩
    · obtain ⟨e0, e1, _, _, e2⟩ := nrc_in x h hx0 hx1
      have := big_sq _ e2
      omega
    · obtain ⟨e0, e1, _, _, e2⟩ := nrc_in y h hy0 hy1
      have := big_sq _ e2
      omega
    · obtain ⟨e0, e1, _, _, e2⟩ := nrc_in z h hz0 hz1
      have := big_sq _ e2
      omega
  refine ⟨d.1, a, b, c, a2, b2, c2, d.2, ?_, ?_⟩
  · exact isq_ge _ _ (by omega) (by omega)
  · exact isq_le _ _ (by omega) (by omega) (by omega)

end Go.Proofs.YtbbhppjamighdaaDoor
