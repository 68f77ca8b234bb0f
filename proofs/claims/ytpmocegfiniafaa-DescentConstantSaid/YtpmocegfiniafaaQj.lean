/- Command of descent and of its reference, by values. -/
import Derived.Test.YtpmocegfiniafaaQh
import Derived.Test.YtpmocegfiniafaaQi
import Derived.Test.YtpmocegfiniafaaWc
import Derived.Test.YtpmocegfiniafaaWd
import Derived.Test.YtpmocegfiniafaaVb
import Derived.Test.YtpmocegfiniafaaVg
import Derived.Test.YtpmocegfiniafaaVh
import Derived.Test.YtpmocegfiniafaaVi
namespace Go.Proofs.Ytpmocegfiniafaa
set_option linter.unusedSimpArgs false
set_option linter.unusedVariables false
open Go.RowKit

theorem vsubV (a b c x y z : Int) (a_0 : -268435455 ≤ a) (a_1 : a ≤ 268435455) (b_0 : -268435455 ≤ b) (b_1 : b ≤ 268435455) (c_0 : -268435455 ≤ c) (c_1 : c ≤ 268435455) (x_0 : -268435455 ≤ x) (x_1 : x ≤ 268435455) (y_0 : -268435455 ≤ y) (y_1 : y ≤ 268435455) (z_0 : -268435455 ≤ z) (z_1 : z ≤ 268435455) (w : World) :
    Calls Try.prog 32 #[(.agg #[.int .u16 (hi (a)), .int .u16 (lo (a)), .int .u16 (hi (b)), .int .u16 (lo (b)), .int .u16 (hi (c)), .int .u16 (lo (c))]), (.agg #[.int .u16 (hi (x)), .int .u16 (lo (x)), .int .u16 (hi (y)), .int .u16 (lo (y)), .int .u16 (hi (z)), .int .u16 (lo (z))])] w fun e w' => e = .returned (.tuple #[(.agg #[.int .u16 (hi (sat (a - x) 268435455)), .int .u16 (lo (sat (a - x) 268435455)), .int .u16 (hi (sat (b - y) 268435455)), .int .u16 (lo (sat (b - y) 268435455)), .int .u16 (hi (sat (c - z) 268435455)), .int .u16 (lo (sat (c - z) 268435455))]), .bool ((outb (a - x) 268435455) || (outb (b - y) 268435455) || (outb (c - z) 268435455))]) ∧ Below w.heap.size w w' := by
  have k_a := hi_lo a a_0 a_1
  have k_b := hi_lo b b_0 b_1
  have k_c := hi_lo c c_0 c_1
  have k_x := hi_lo x x_0 x_1
  have k_y := hi_lo y y_0 y_1
  have k_z := hi_lo z z_0 z_1
  have h := vsub_any (hi a) (lo a) (hi b) (lo b) (hi c) (lo c) (hi x) (lo x) (hi y) (lo y) (hi z) (lo z)  (by omega) (by omega) (by omega) (by omega) (by omega) (by omega) (by omega) (by omega) (by omega) (by omega) (by omega) (by omega) (by omega) (by omega) (by omega) (by omega) (by omega) (by omega) (by omega) (by omega) (by omega) (by omega) (by omega) (by omega) w
  rw [val_of a a_0 a_1, val_of b b_0 b_1, val_of c c_0 c_1, val_of x x_0 x_1, val_of y y_0 y_1, val_of z z_0 z_1] at h
  exact h
theorem vaddV (a b c x y z : Int) (a_0 : -268435455 ≤ a) (a_1 : a ≤ 268435455) (b_0 : -268435455 ≤ b) (b_1 : b ≤ 268435455) (c_0 : -268435455 ≤ c) (c_1 : c ≤ 268435455) (x_0 : -268435455 ≤ x) (x_1 : x ≤ 268435455) (y_0 : -268435455 ≤ y) (y_1 : y ≤ 268435455) (z_0 : -268435455 ≤ z) (z_1 : z ≤ 268435455) (w : World) :
    Calls Try.prog 35 #[(.agg #[.int .u16 (hi (a)), .int .u16 (lo (a)), .int .u16 (hi (b)), .int .u16 (lo (b)), .int .u16 (hi (c)), .int .u16 (lo (c))]), (.agg #[.int .u16 (hi (x)), .int .u16 (lo (x)), .int .u16 (hi (y)), .int .u16 (lo (y)), .int .u16 (hi (z)), .int .u16 (lo (z))])] w fun e w' => e = .returned (.tuple #[(.agg #[.int .u16 (hi (sat (a + x) 268435455)), .int .u16 (lo (sat (a + x) 268435455)), .int .u16 (hi (sat (b + y) 268435455)), .int .u16 (lo (sat (b + y) 268435455)), .int .u16 (hi (sat (c + z) 268435455)), .int .u16 (lo (sat (c + z) 268435455))]), .bool ((outb (a + x) 268435455) || (outb (b + y) 268435455) || (outb (c + z) 268435455))]) ∧ Below w.heap.size w w' := by
  have k_a := hi_lo a a_0 a_1
  have k_b := hi_lo b b_0 b_1
  have k_c := hi_lo c c_0 c_1
  have k_x := hi_lo x x_0 x_1
  have k_y := hi_lo y y_0 y_1
  have k_z := hi_lo z z_0 z_1
  have h := vadd_any (hi a) (lo a) (hi b) (lo b) (hi c) (lo c) (hi x) (lo x) (hi y) (lo y) (hi z) (lo z)  (by omega) (by omega) (by omega) (by omega) (by omega) (by omega) (by omega) (by omega) (by omega) (by omega) (by omega) (by omega) (by omega) (by omega) (by omega) (by omega) (by omega) (by omega) (by omega) (by omega) (by omega) (by omega) (by omega) (by omega) w
  rw [val_of a a_0 a_1, val_of b b_0 b_1, val_of c c_0 c_1, val_of x x_0 x_1, val_of y y_0 y_1, val_of z z_0 z_1] at h
  exact h
theorem rsubV (a b c x y z : Int) (a_0 : -268435455 ≤ a) (a_1 : a ≤ 268435455) (b_0 : -268435455 ≤ b) (b_1 : b ≤ 268435455) (c_0 : -268435455 ≤ c) (c_1 : c ≤ 268435455) (x_0 : -268435455 ≤ x) (x_1 : x ≤ 268435455) (y_0 : -268435455 ≤ y) (y_1 : y ≤ 268435455) (z_0 : -268435455 ≤ z) (z_1 : z ≤ 268435455) (w : World) :
    Calls Try.prog 37 #[(.agg #[.int .u16 (hi (a)), .int .u16 (lo (a)), .int .u16 (hi (b)), .int .u16 (lo (b)), .int .u16 (hi (c)), .int .u16 (lo (c))]), (.agg #[.int .u16 (hi (x)), .int .u16 (lo (x)), .int .u16 (hi (y)), .int .u16 (lo (y)), .int .u16 (hi (z)), .int .u16 (lo (z))]), .int .i64 (-1)] w fun e w' => e = .returned (.tuple #[(.agg #[.int .u16 (hi (sat (a - x) 268435455)), .int .u16 (lo (sat (a - x) 268435455)), .int .u16 (hi (sat (b - y) 268435455)), .int .u16 (lo (sat (b - y) 268435455)), .int .u16 (hi (sat (c - z) 268435455)), .int .u16 (lo (sat (c - z) 268435455))]), .bool ((outb (a - x) 268435455) || (outb (b - y) 268435455) || (outb (c - z) 268435455))]) ∧ Below w.heap.size w w' := by
  have k_a := hi_lo a a_0 a_1
  have k_b := hi_lo b b_0 b_1
  have k_c := hi_lo c c_0 c_1
  have k_x := hi_lo x x_0 x_1
  have k_y := hi_lo y y_0 y_1
  have k_z := hi_lo z z_0 z_1
  have h := rsum_m (hi a) (lo a) (hi b) (lo b) (hi c) (lo c) (hi x) (lo x) (hi y) (lo y) (hi z) (lo z)  (by omega) (by omega) (by omega) (by omega) (by omega) (by omega) (by omega) (by omega) (by omega) (by omega) (by omega) (by omega) (by omega) (by omega) (by omega) (by omega) (by omega) (by omega) (by omega) (by omega) (by omega) (by omega) (by omega) (by omega) w
  rw [val_of a a_0 a_1, val_of b b_0 b_1, val_of c c_0 c_1, val_of x x_0 x_1, val_of y y_0 y_1, val_of z z_0 z_1] at h
  exact h
theorem raddV (a b c x y z : Int) (a_0 : -268435455 ≤ a) (a_1 : a ≤ 268435455) (b_0 : -268435455 ≤ b) (b_1 : b ≤ 268435455) (c_0 : -268435455 ≤ c) (c_1 : c ≤ 268435455) (x_0 : -268435455 ≤ x) (x_1 : x ≤ 268435455) (y_0 : -268435455 ≤ y) (y_1 : y ≤ 268435455) (z_0 : -268435455 ≤ z) (z_1 : z ≤ 268435455) (w : World) :
    Calls Try.prog 37 #[(.agg #[.int .u16 (hi (a)), .int .u16 (lo (a)), .int .u16 (hi (b)), .int .u16 (lo (b)), .int .u16 (hi (c)), .int .u16 (lo (c))]), (.agg #[.int .u16 (hi (x)), .int .u16 (lo (x)), .int .u16 (hi (y)), .int .u16 (lo (y)), .int .u16 (hi (z)), .int .u16 (lo (z))]), .int .i64 1] w fun e w' => e = .returned (.tuple #[(.agg #[.int .u16 (hi (sat (a + x) 268435455)), .int .u16 (lo (sat (a + x) 268435455)), .int .u16 (hi (sat (b + y) 268435455)), .int .u16 (lo (sat (b + y) 268435455)), .int .u16 (hi (sat (c + z) 268435455)), .int .u16 (lo (sat (c + z) 268435455))]), .bool ((outb (a + x) 268435455) || (outb (b + y) 268435455) || (outb (c + z) 268435455))]) ∧ Below w.heap.size w w' := by
  have k_a := hi_lo a a_0 a_1
  have k_b := hi_lo b b_0 b_1
  have k_c := hi_lo c c_0 c_1
  have k_x := hi_lo x x_0 x_1
  have k_y := hi_lo y y_0 y_1
  have k_z := hi_lo z z_0 z_1
  have h := rsum_p (hi a) (lo a) (hi b) (lo b) (hi c) (lo c) (hi x) (lo x) (hi y) (lo y) (hi z) (lo z)  (by omega) (by omega) (by omega) (by omega) (by omega) (by omega) (by omega) (by omega) (by omega) (by omega) (by omega) (by omega) (by omega) (by omega) (by omega) (by omega) (by omega) (by omega) (by omega) (by omega) (by omega) (by omega) (by omega) (by omega) w
  rw [val_of a a_0 a_1, val_of b b_0 b_1, val_of c c_0 c_1, val_of x x_0 x_1, val_of y y_0 y_1, val_of z z_0 z_1] at h
  exact h
theorem vscaleV (a b c : Int) (a_0 : -268435455 ≤ a) (a_1 : a ≤ 268435455) (b_0 : -268435455 ≤ b) (b_1 : b ≤ 268435455) (c_0 : -268435455 ≤ c) (c_1 : c ≤ 268435455) (w : World) :
    Calls Try.prog 33 #[(.agg #[.int .u16 (hi (a)), .int .u16 (lo (a)), .int .u16 (hi (b)), .int .u16 (lo (b)), .int .u16 (hi (c)), .int .u16 (lo (c))]), (.agg #[.int .u16 (6144), .int .u16 (0)])] w fun e w' => e = .returned (.agg #[.int .u16 (hi (mulv a 100663296)), .int .u16 (lo (mulv a 100663296)), .int .u16 (hi (mulv b 100663296)), .int .u16 (lo (mulv b 100663296)), .int .u16 (hi (mulv c 100663296)), .int .u16 (lo (mulv c 100663296))]) ∧ Below w.heap.size w w' := by
  have k_a := hi_lo a a_0 a_1
  have k_b := hi_lo b b_0 b_1
  have k_c := hi_lo c c_0 c_1
  have h := vscale_any (hi a) (lo a) (hi b) (lo b) (hi c) (lo c) 6144 0 (by omega) (by omega) (by omega) (by omega) (by omega) (by omega) (by omega) (by omega) (by omega) (by omega) (by omega) (by omega) (by omega) (by omega) (by omega) (by omega) w
  rw [val_of a a_0 a_1, val_of b b_0 b_1, val_of c c_0 c_1, show val 6144 0 = 100663296 by decide +kernel] at h
  exact h
theorem rscaleV (a b c : Int) (a_0 : -268435455 ≤ a) (a_1 : a ≤ 268435455) (b_0 : -268435455 ≤ b) (b_1 : b ≤ 268435455) (c_0 : -268435455 ≤ c) (c_1 : c ≤ 268435455) (w : World) :
    Calls Try.prog 39 #[(.agg #[.int .u16 (hi (a)), .int .u16 (lo (a)), .int .u16 (hi (b)), .int .u16 (lo (b)), .int .u16 (hi (c)), .int .u16 (lo (c))]), (.agg #[.int .u16 (6144), .int .u16 (0)])] w fun e w' => e = .returned (.agg #[.int .u16 (hi (mulv a 100663296)), .int .u16 (lo (mulv a 100663296)), .int .u16 (hi (mulv b 100663296)), .int .u16 (lo (mulv b 100663296)), .int .u16 (hi (mulv c 100663296)), .int .u16 (lo (mulv c 100663296))]) ∧ Below w.heap.size w w' := by
  have k_a := hi_lo a a_0 a_1
  have k_b := hi_lo b b_0 b_1
  have k_c := hi_lo c c_0 c_1
  have h := rscale_any (hi a) (lo a) (hi b) (lo b) (hi c) (lo c) 6144 0 (by omega) (by omega) (by omega) (by omega) (by omega) (by omega) (by omega) (by omega) (by omega) (by omega) (by omega) (by omega) (by omega) (by omega) (by omega) (by omega) w
  rw [val_of a a_0 a_1, val_of b b_0 b_1, val_of c c_0 c_1, show val 6144 0 = 100663296 by decide +kernel] at h
  exact h
theorem divV (a t0 t1 : Int) (a_0 : -268435455 ≤ a) (a_1 : a ≤ 268435455) (ht00 : 0 ≤ t0) (ht01 : t0 < 65536) (ht10 : 0 ≤ t1) (ht11 : t1 < 65536) (w : World) :
    Calls Try.prog 31 #[(.agg #[.int .u16 (hi (a)), .int .u16 (lo (a))]), (.agg #[.int .u16 (t0), .int .u16 (t1)])] w fun e w' => e = .returned (.tuple #[(.agg #[.int .u16 (hi (dvv a (val t0 t1))), .int .u16 (lo (dvv a (val t0 t1)))]), .bool (dvo a (val t0 t1))]) ∧ Below w.heap.size w w' := by
  have k_a := hi_lo a a_0 a_1
  have h := div_any (hi a) (lo a) t0 t1 (by omega) (by omega) (by omega) (by omega) ht00 ht01 ht10 ht11 w
  rw [val_of a a_0 a_1] at h
  exact h
theorem rdivV (a t0 t1 : Int) (a_0 : -268435455 ≤ a) (a_1 : a ≤ 268435455) (ht00 : 0 ≤ t0) (ht01 : t0 < 65536) (ht10 : 0 ≤ t1) (ht11 : t1 < 65536) (w : World) :
    Calls Try.prog 60 #[(.agg #[.int .u16 (hi (a)), .int .u16 (lo (a))]), (.agg #[.int .u16 (t0), .int .u16 (t1)])] w fun e w' => e = .returned (.tuple #[(.agg #[.int .u16 (hi (dvv a (val t0 t1))), .int .u16 (lo (dvv a (val t0 t1)))]), .bool (dvo a (val t0 t1))]) ∧ Below w.heap.size w w' := by
  have k_a := hi_lo a a_0 a_1
  have h := rdiv_any (hi a) (lo a) t0 t1 (by omega) (by omega) (by omega) (by omega) ht00 ht01 ht10 ht11 w
  rw [val_of a a_0 a_1] at h
  exact h
theorem rdiv3V (a b c t0 t1 : Int) (a_0 : -268435455 ≤ a) (a_1 : a ≤ 268435455) (b_0 : -268435455 ≤ b) (b_1 : b ≤ 268435455) (c_0 : -268435455 ≤ c) (c_1 : c ≤ 268435455) (ht00 : 0 ≤ t0) (ht01 : t0 < 65536) (ht10 : 0 ≤ t1) (ht11 : t1 < 65536) (w : World) :
    Calls Try.prog 38 #[(.agg #[.int .u16 (hi (a)), .int .u16 (lo (a)), .int .u16 (hi (b)), .int .u16 (lo (b)), .int .u16 (hi (c)), .int .u16 (lo (c))]), (.agg #[.int .u16 (t0), .int .u16 (t1)])] w fun e w' => e = .returned (.tuple #[(.agg #[.int .u16 (hi (dvv a (val t0 t1))), .int .u16 (lo (dvv a (val t0 t1))), .int .u16 (hi (dvv b (val t0 t1))), .int .u16 (lo (dvv b (val t0 t1))), .int .u16 (hi (dvv c (val t0 t1))), .int .u16 (lo (dvv c (val t0 t1)))]), .bool ((dvo a (val t0 t1)) || (dvo b (val t0 t1)) || (dvo c (val t0 t1)))]) ∧ Below w.heap.size w w' :=
  rdiv3_of _ _ _ _ _ _ _ _ _ _ _ _ _ _ _ _ _ (rdivV a t0 t1 a_0 a_1 ht00 ht01 ht10 ht11) (rdivV b t0 t1 b_0 b_1 ht00 ht01 ht10 ht11) (rdivV c t0 t1 c_0 c_1 ht00 ht01 ht10 ht11) w
theorem closV (a b c t0 t1 : Int) (o : Bool) (a_0 : -268435455 ≤ a) (a_1 : a ≤ 268435455) (b_0 : -268435455 ≤ b) (b_1 : b ≤ 268435455) (c_0 : -268435455 ≤ c) (c_1 : c ≤ 268435455) (ht00 : 0 ≤ t0) (ht01 : t0 < 65536) (ht10 : 0 ≤ t1) (ht11 : t1 < 65536) (bt bo : Nat) (w : World) (h1 : bt < w.heap.size) (h2 : bo < w.heap.size) (h3 : bt ≠ bo) (h4 : w.cell? ⟨bt, 12, none⟩ = some (.int .u16 t0)) (h5 : w.cell? ⟨bt, 13, none⟩ = some (.int .u16 t1)) (h6 : w.cell? ⟨bo, 0, none⟩ = some (.bool o)) (h7 : w.frozen? ⟨bo, 0, none⟩ = false) :
    Calls Try.prog 30 #[(.agg #[.int .u16 (hi (a)), .int .u16 (lo (a)), .int .u16 (hi (b)), .int .u16 (lo (b)), .int .u16 (hi (c)), .int .u16 (lo (c))]), .pointer (some ⟨bt, 0, none⟩), .pointer (some ⟨bo, 0, none⟩)] w fun e w' => e = .returned (.agg #[.int .u16 (hi (dvv a (val t0 t1))), .int .u16 (lo (dvv a (val t0 t1))), .int .u16 (hi (dvv b (val t0 t1))), .int .u16 (lo (dvv b (val t0 t1))), .int .u16 (hi (dvv c (val t0 t1))), .int .u16 (lo (dvv c (val t0 t1)))]) ∧ Below w.heap.size (w.setCell ⟨bo, 0, none⟩ (.bool (o || ((dvo a (val t0 t1)) || (dvo b (val t0 t1)) || (dvo c (val t0 t1)))))) w' := by
  have D0 := divV a t0 t1 a_0 a_1 ht00 ht01 ht10 ht11
  have D1 := divV b t0 t1 b_0 b_1 ht00 ht01 ht10 ht11
  have D2 := divV c t0 t1 c_0 c_1 ht00 ht01 ht10 ht11
  generalize dvo a (val t0 t1) = o0 at *
  generalize dvo b (val t0 t1) = o1 at *
  generalize dvo c (val t0 t1) = o2 at *
  cases o
  · cases o0
    · cases o1
      · simpa using cdiv_2 _ _ _ _ _ _ _ _ _ _ _ _ _ _ false false o2 bt bo w h1 h2 h3 h4 h5 h6 h7 D0 D1 D2
      · simpa using cdiv_1 _ _ _ _ _ _ _ _ _ _ _ _ _ _ false true o2 bt bo w h1 h2 h3 h4 h5 h6 h7 D0 D1 D2
    · simpa using cdiv_0 _ _ _ _ _ _ _ _ _ _ _ _ _ _ true o1 o2 bt bo w h1 h2 h3 h4 h5 h6 h7 D0 D1 D2
  · simpa using cdiv_t _ _ _ _ _ _ _ _ _ _ _ _ _ _ o0 o1 o2 bt bo w h1 h2 h3 h4 h5 h6 h7 D0 D1 D2

/-- The command's component: position and velocity of state vector and target, time to go. -/
def cmg (sr tr T : Int) : Int := mulv (sat (tr - sr) 268435455) 100663296
def cmh (sr tr T : Int) : Int := dvv (cmg sr tr T) T
def cmp' (sr tr T : Int) : Int := dvv (cmh sr tr T) T
def cmv (sv tv : Int) : Int := sat (shv sv (-2) + shv tv (-3)) 268435455
def cmu (sv tv T : Int) : Int := dvv (cmv sv tv) T
def cmc (sr sv tr tv T : Int) : Int := sat (cmp' sr tr T - cmu sv tv T) 268435455
/-- What is out of range in it. -/
def cm1 (sr tr T : Int) : Bool := dvo (cmg sr tr T) T
def cm2 (sr tr T : Int) : Bool := dvo (cmh sr tr T) T
def cm3 (sv tv T : Int) : Bool := dvo (cmv sv tv) T
def cma (sr tr : Int) : Bool := outb (tr - sr) 268435455
def cmb (sv tv : Int) : Bool := outb (shv sv (-2) + shv tv (-3)) 268435455
def cmd (sr sv tr tv T : Int) : Bool := outb (cmp' sr tr T - cmu sv tv T) 268435455
set_option maxHeartbeats 2000000 in
theorem rcommand_any (s0 s1 s2 s3 s4 s5 s6 s7 s8 s9 s10 s11 t0 t1 t2 t3 t4 t5 t6 t7 t8 t9 t10 t11 t12 t13 : Int) (hs00 : 0 ≤ s0) (hs01 : s0 < 65536) (hs10 : 0 ≤ s1) (hs11 : s1 < 65536) (hs20 : 0 ≤ s2) (hs21 : s2 < 65536) (hs30 : 0 ≤ s3) (hs31 : s3 < 65536) (hs40 : 0 ≤ s4) (hs41 : s4 < 65536) (hs50 : 0 ≤ s5) (hs51 : s5 < 65536) (hs60 : 0 ≤ s6) (hs61 : s6 < 65536) (hs70 : 0 ≤ s7) (hs71 : s7 < 65536) (hs80 : 0 ≤ s8) (hs81 : s8 < 65536) (hs90 : 0 ≤ s9) (hs91 : s9 < 65536) (hs100 : 0 ≤ s10) (hs101 : s10 < 65536) (hs110 : 0 ≤ s11) (hs111 : s11 < 65536) (ht00 : 0 ≤ t0) (ht01 : t0 < 65536) (ht10 : 0 ≤ t1) (ht11 : t1 < 65536) (ht20 : 0 ≤ t2) (ht21 : t2 < 65536) (ht30 : 0 ≤ t3) (ht31 : t3 < 65536) (ht40 : 0 ≤ t4) (ht41 : t4 < 65536) (ht50 : 0 ≤ t5) (ht51 : t5 < 65536) (ht60 : 0 ≤ t6) (ht61 : t6 < 65536) (ht70 : 0 ≤ t7) (ht71 : t7 < 65536) (ht80 : 0 ≤ t8) (ht81 : t8 < 65536) (ht90 : 0 ≤ t9) (ht91 : t9 < 65536) (ht100 : 0 ≤ t10) (ht101 : t10 < 65536) (ht110 : 0 ≤ t11) (ht111 : t11 < 65536) (ht120 : 0 ≤ t12) (ht121 : t12 < 65536) (ht130 : 0 ≤ t13) (ht131 : t13 < 65536) (w : World) :
    Calls Try.prog 13 #[(.agg #[.int .u16 (s0), .int .u16 (s1), .int .u16 (s2), .int .u16 (s3), .int .u16 (s4), .int .u16 (s5), .int .u16 (s6), .int .u16 (s7), .int .u16 (s8), .int .u16 (s9), .int .u16 (s10), .int .u16 (s11)]), (.agg #[.int .u16 (t0), .int .u16 (t1), .int .u16 (t2), .int .u16 (t3), .int .u16 (t4), .int .u16 (t5), .int .u16 (t6), .int .u16 (t7), .int .u16 (t8), .int .u16 (t9), .int .u16 (t10), .int .u16 (t11), .int .u16 (t12), .int .u16 (t13)])] w fun e w' => e = .returned (.tuple #[(.agg #[.int .u16 (hi (cmc (val s0 s1) (val s6 s7) (val t0 t1) (val t6 t7) ((val t12 t13)))), .int .u16 (lo (cmc (val s0 s1) (val s6 s7) (val t0 t1) (val t6 t7) ((val t12 t13)))), .int .u16 (hi (cmc (val s2 s3) (val s8 s9) (val t2 t3) (val t8 t9) ((val t12 t13)))), .int .u16 (lo (cmc (val s2 s3) (val s8 s9) (val t2 t3) (val t8 t9) ((val t12 t13)))), .int .u16 (hi (cmc (val s4 s5) (val s10 s11) (val t4 t5) (val t10 t11) ((val t12 t13)))), .int .u16 (lo (cmc (val s4 s5) (val s10 s11) (val t4 t5) (val t10 t11) ((val t12 t13))))]), .bool (((cma (val s0 s1) (val t0 t1)) || (cma (val s2 s3) (val t2 t3)) || (cma (val s4 s5) (val t4 t5))) || ((cm1 (val s0 s1) (val t0 t1) ((val t12 t13))) || (cm1 (val s2 s3) (val t2 t3) ((val t12 t13))) || (cm1 (val s4 s5) (val t4 t5) ((val t12 t13)))) || ((cm2 (val s0 s1) (val t0 t1) ((val t12 t13))) || (cm2 (val s2 s3) (val t2 t3) ((val t12 t13))) || (cm2 (val s4 s5) (val t4 t5) ((val t12 t13)))) || ((cmb (val s6 s7) (val t6 t7)) || (cmb (val s8 s9) (val t8 t9)) || (cmb (val s10 s11) (val t10 t11))) || ((cm3 (val s6 s7) (val t6 t7) ((val t12 t13))) || (cm3 (val s8 s9) (val t8 t9) ((val t12 t13))) || (cm3 (val s10 s11) (val t10 t11) ((val t12 t13)))) || ((cmd (val s0 s1) (val s6 s7) (val t0 t1) (val t6 t7) ((val t12 t13))) || (cmd (val s2 s3) (val s8 s9) (val t2 t3) (val t8 t9) ((val t12 t13))) || (cmd (val s4 s5) (val s10 s11) (val t4 t5) (val t10 t11) ((val t12 t13)))))]) ∧ Below w.heap.size w w' := by
  have sr00 := val_lo s0 s1
  have sr01 := val_hi s0 s1
  have sr10 := val_lo s2 s3
  have sr11 := val_hi s2 s3
  have sr20 := val_lo s4 s5
  have sr21 := val_hi s4 s5
  have sv00 := val_lo s6 s7
  have sv01 := val_hi s6 s7
  have sv10 := val_lo s8 s9
  have sv11 := val_hi s8 s9
  have sv20 := val_lo s10 s11
  have sv21 := val_hi s10 s11
  have tr00 := val_lo t0 t1
  have tr01 := val_hi t0 t1
  have tr10 := val_lo t2 t3
  have tr11 := val_hi t2 t3
  have tr20 := val_lo t4 t5
  have tr21 := val_hi t4 t5
  have tv00 := val_lo t6 t7
  have tv01 := val_hi t6 t7
  have tv10 := val_lo t8 t9
  have tv11 := val_hi t8 t9
  have tv20 := val_lo t10 t11
  have tv21 := val_hi t10 t11
  have tt0 := val_lo t12 t13
  have tt1 := val_hi t12 t13
  obtain ⟨n00, n01⟩ := shv_size (val s6 s7) (-2) sv00 sv01
  obtain ⟨m00, m01⟩ := shv_size (val t6 t7) (-3) tv00 tv01
  obtain ⟨n10, n11⟩ := shv_size (val s8 s9) (-2) sv10 sv11
  obtain ⟨m10, m11⟩ := shv_size (val t8 t9) (-3) tv10 tv11
  obtain ⟨n20, n21⟩ := shv_size (val s10 s11) (-2) sv20 sv21
  obtain ⟨m20, m21⟩ := shv_size (val t10 t11) (-3) tv20 tv21
  have C2 := fun w => rsum_m t0 t1 t2 t3 t4 t5 s0 s1 s2 s3 s4 s5 ht00 ht01 ht10 ht11 ht20 ht21 ht30 ht31 ht40 ht41 ht50 ht51 hs00 hs01 hs10 hs11 hs20 hs21 hs30 hs31 hs40 hs41 hs50 hs51 w
  have C3 := fun w => rscaleV (sat (val t0 t1 - val s0 s1) 268435455) (sat (val t2 t3 - val s2 s3) 268435455) (sat (val t4 t5 - val s4 s5) 268435455) (sat_lo _ _ (by omega)) (sat_hi _ _ (by omega)) (sat_lo _ _ (by omega)) (sat_hi _ _ (by omega)) (sat_lo _ _ (by omega)) (sat_hi _ _ (by omega)) w
  have C4 := fun w => rshift17_any s6 s7 s8 s9 s10 s11 (-2) hs60 hs61 hs70 hs71 hs80 hs81 hs90 hs91 hs100 hs101 hs110 hs111 (by omega) w
  have C5 := fun w => rshift17_any t6 t7 t8 t9 t10 t11 (-3) ht60 ht61 ht70 ht71 ht80 ht81 ht90 ht91 ht100 ht101 ht110 ht111 (by omega) w
  have C6 := fun w => raddV (shv (val s6 s7) (-2)) (shv (val s8 s9) (-2)) (shv (val s10 s11) (-2)) (shv (val t6 t7) (-3)) (shv (val t8 t9) (-3)) (shv (val t10 t11) (-3)) n00 n01 n10 n11 n20 n21 m00 m01 m10 m11 m20 m21 w
  have C7 := fun w => rsubV (cmp' (val s0 s1) (val t0 t1) ((val t12 t13))) (cmp' (val s2 s3) (val t2 t3) ((val t12 t13))) (cmp' (val s4 s5) (val t4 t5) ((val t12 t13))) (cmu (val s6 s7) (val t6 t7) ((val t12 t13))) (cmu (val s8 s9) (val t8 t9) ((val t12 t13))) (cmu (val s10 s11) (val t10 t11) ((val t12 t13))) (dvv_size _ _ tt0 tt1).1 (dvv_size _ _ tt0 tt1).2 (dvv_size _ _ tt0 tt1).1 (dvv_size _ _ tt0 tt1).2 (dvv_size _ _ tt0 tt1).1 (dvv_size _ _ tt0 tt1).2 (dvv_size _ _ tt0 tt1).1 (dvv_size _ _ tt0 tt1).2 (dvv_size _ _ tt0 tt1).1 (dvv_size _ _ tt0 tt1).2 (dvv_size _ _ tt0 tt1).1 (dvv_size _ _ tt0 tt1).2 w
  have C1 := fun w => rdouble_any 100663296 (by omega) (by omega) w
  rw [show hi 100663296 = 6144 by decide +kernel, show lo 100663296 = 0 by decide +kernel] at C1
  have K1 := fun w => rdiv3V (cmg (val s0 s1) (val t0 t1) ((val t12 t13))) (cmg (val s2 s3) (val t2 t3) ((val t12 t13))) (cmg (val s4 s5) (val t4 t5) ((val t12 t13))) t12 t13 (mulv_size _ _ (sat_lo _ _ (by omega)) (sat_hi _ _ (by omega)) (by omega) (by omega)).1 (mulv_size _ _ (sat_lo _ _ (by omega)) (sat_hi _ _ (by omega)) (by omega) (by omega)).2 (mulv_size _ _ (sat_lo _ _ (by omega)) (sat_hi _ _ (by omega)) (by omega) (by omega)).1 (mulv_size _ _ (sat_lo _ _ (by omega)) (sat_hi _ _ (by omega)) (by omega) (by omega)).2 (mulv_size _ _ (sat_lo _ _ (by omega)) (sat_hi _ _ (by omega)) (by omega) (by omega)).1 (mulv_size _ _ (sat_lo _ _ (by omega)) (sat_hi _ _ (by omega)) (by omega) (by omega)).2 ht120 ht121 ht130 ht131 w
  have K2 := fun w => rdiv3V (cmh (val s0 s1) (val t0 t1) ((val t12 t13))) (cmh (val s2 s3) (val t2 t3) ((val t12 t13))) (cmh (val s4 s5) (val t4 t5) ((val t12 t13))) t12 t13 (dvv_size _ _ tt0 tt1).1 (dvv_size _ _ tt0 tt1).2 (dvv_size _ _ tt0 tt1).1 (dvv_size _ _ tt0 tt1).2 (dvv_size _ _ tt0 tt1).1 (dvv_size _ _ tt0 tt1).2 ht120 ht121 ht130 ht131 w
  have K3 := fun w => rdiv3V (cmv (val s6 s7) (val t6 t7)) (cmv (val s8 s9) (val t8 t9)) (cmv (val s10 s11) (val t10 t11)) t12 t13 (sat_lo _ _ (by omega)) (sat_hi _ _ (by omega)) (sat_lo _ _ (by omega)) (sat_hi _ _ (by omega)) (sat_lo _ _ (by omega)) (sat_hi _ _ (by omega)) ht120 ht121 ht130 ht131 w
  exact rcmd_of _ _ _ _ _ _ _ _ _ _ _ _ _ _ _ _ _ _ _ _ _ _ _ _ _ _ _ _ _ _ _ _ _ _ _ _ _ _ _ _ _ _ _ _ _ _ _ _ _ _ _ _ _ _ _ _ _ _ _ _ _ _ _ _ _ _ _ _ _ _ _ _ _ _ _ _ _ _ _ _ _ _ _ _ _ _ _ _ C2 C1 C3 K1 K2 C4 C5 C6 K3 C7 w
theorem le_of_dec {t : Int} (h : 0 < t) : decide (t ≤ 0) = false := decide_eq_false (by omega)
set_option maxHeartbeats 4000000 in
theorem command_quiet (s0 s1 s2 s3 s4 s5 s6 s7 s8 s9 s10 s11 t0 t1 t2 t3 t4 t5 t6 t7 t8 t9 t10 t11 t12 t13 : Int) (hs00 : 0 ≤ s0) (hs01 : s0 < 65536) (hs10 : 0 ≤ s1) (hs11 : s1 < 65536) (hs20 : 0 ≤ s2) (hs21 : s2 < 65536) (hs30 : 0 ≤ s3) (hs31 : s3 < 65536) (hs40 : 0 ≤ s4) (hs41 : s4 < 65536) (hs50 : 0 ≤ s5) (hs51 : s5 < 65536) (hs60 : 0 ≤ s6) (hs61 : s6 < 65536) (hs70 : 0 ≤ s7) (hs71 : s7 < 65536) (hs80 : 0 ≤ s8) (hs81 : s8 < 65536) (hs90 : 0 ≤ s9) (hs91 : s9 < 65536) (hs100 : 0 ≤ s10) (hs101 : s10 < 65536) (hs110 : 0 ≤ s11) (hs111 : s11 < 65536) (ht00 : 0 ≤ t0) (ht01 : t0 < 65536) (ht10 : 0 ≤ t1) (ht11 : t1 < 65536) (ht20 : 0 ≤ t2) (ht21 : t2 < 65536) (ht30 : 0 ≤ t3) (ht31 : t3 < 65536) (ht40 : 0 ≤ t4) (ht41 : t4 < 65536) (ht50 : 0 ≤ t5) (ht51 : t5 < 65536) (ht60 : 0 ≤ t6) (ht61 : t6 < 65536) (ht70 : 0 ≤ t7) (ht71 : t7 < 65536) (ht80 : 0 ≤ t8) (ht81 : t8 < 65536) (ht90 : 0 ≤ t9) (ht91 : t9 < 65536) (ht100 : 0 ≤ t10) (ht101 : t10 < 65536) (ht110 : 0 ≤ t11) (ht111 : t11 < 65536) (ht120 : 0 ≤ t12) (ht121 : t12 < 65536) (ht130 : 0 ≤ t13) (ht131 : t13 < 65536) (hT : 0 < (val t12 t13)) (hq : (((cm1 (val s0 s1) (val t0 t1) ((val t12 t13))) || (cm1 (val s2 s3) (val t2 t3) ((val t12 t13))) || (cm1 (val s4 s5) (val t4 t5) ((val t12 t13)))) || ((cm2 (val s0 s1) (val t0 t1) ((val t12 t13))) || (cm2 (val s2 s3) (val t2 t3) ((val t12 t13))) || (cm2 (val s4 s5) (val t4 t5) ((val t12 t13))))) = true ∨ ((cm3 (val s6 s7) (val t6 t7) ((val t12 t13))) || (cm3 (val s8 s9) (val t8 t9) ((val t12 t13))) || (cm3 (val s10 s11) (val t10 t11) ((val t12 t13)))) = false) (w : World) :
    Calls Try.prog 11 #[(.agg #[.int .u16 (s0), .int .u16 (s1), .int .u16 (s2), .int .u16 (s3), .int .u16 (s4), .int .u16 (s5), .int .u16 (s6), .int .u16 (s7), .int .u16 (s8), .int .u16 (s9), .int .u16 (s10), .int .u16 (s11)]), (.agg #[.int .u16 (t0), .int .u16 (t1), .int .u16 (t2), .int .u16 (t3), .int .u16 (t4), .int .u16 (t5), .int .u16 (t6), .int .u16 (t7), .int .u16 (t8), .int .u16 (t9), .int .u16 (t10), .int .u16 (t11), .int .u16 (t12), .int .u16 (t13)])] w fun e w' => e = .returned (.tuple #[(.agg #[.int .u16 (hi (cmc (val s0 s1) (val s6 s7) (val t0 t1) (val t6 t7) ((val t12 t13)))), .int .u16 (lo (cmc (val s0 s1) (val s6 s7) (val t0 t1) (val t6 t7) ((val t12 t13)))), .int .u16 (hi (cmc (val s2 s3) (val s8 s9) (val t2 t3) (val t8 t9) ((val t12 t13)))), .int .u16 (lo (cmc (val s2 s3) (val s8 s9) (val t2 t3) (val t8 t9) ((val t12 t13)))), .int .u16 (hi (cmc (val s4 s5) (val s10 s11) (val t4 t5) (val t10 t11) ((val t12 t13)))), .int .u16 (lo (cmc (val s4 s5) (val s10 s11) (val t4 t5) (val t10 t11) ((val t12 t13))))]), .bool (((cm1 (val s0 s1) (val t0 t1) ((val t12 t13))) || (cm1 (val s2 s3) (val t2 t3) ((val t12 t13))) || (cm1 (val s4 s5) (val t4 t5) ((val t12 t13)))) || ((cm2 (val s0 s1) (val t0 t1) ((val t12 t13))) || (cm2 (val s2 s3) (val t2 t3) ((val t12 t13))) || (cm2 (val s4 s5) (val t4 t5) ((val t12 t13)))) || ((cm3 (val s6 s7) (val t6 t7) ((val t12 t13))) || (cm3 (val s8 s9) (val t8 t9) ((val t12 t13))) || (cm3 (val s10 s11) (val t10 t11) ((val t12 t13)))) || ((cma (val s0 s1) (val t0 t1)) || (cma (val s2 s3) (val t2 t3)) || (cma (val s4 s5) (val t4 t5))) || ((cmb (val s6 s7) (val t6 t7)) || (cmb (val s8 s9) (val t8 t9)) || (cmb (val s10 s11) (val t10 t11))) || ((cmd (val s0 s1) (val s6 s7) (val t0 t1) (val t6 t7) ((val t12 t13))) || (cmd (val s2 s3) (val s8 s9) (val t2 t3) (val t8 t9) ((val t12 t13))) || (cmd (val s4 s5) (val s10 s11) (val t4 t5) (val t10 t11) ((val t12 t13))))), .int .i64 0]) ∧ Below w.heap.size w w' := by
  have sr00 := val_lo s0 s1
  have sr01 := val_hi s0 s1
  have sr10 := val_lo s2 s3
  have sr11 := val_hi s2 s3
  have sr20 := val_lo s4 s5
  have sr21 := val_hi s4 s5
  have sv00 := val_lo s6 s7
  have sv01 := val_hi s6 s7
  have sv10 := val_lo s8 s9
  have sv11 := val_hi s8 s9
  have sv20 := val_lo s10 s11
  have sv21 := val_hi s10 s11
  have tr00 := val_lo t0 t1
  have tr01 := val_hi t0 t1
  have tr10 := val_lo t2 t3
  have tr11 := val_hi t2 t3
  have tr20 := val_lo t4 t5
  have tr21 := val_hi t4 t5
  have tv00 := val_lo t6 t7
  have tv01 := val_hi t6 t7
  have tv10 := val_lo t8 t9
  have tv11 := val_hi t8 t9
  have tv20 := val_lo t10 t11
  have tv21 := val_hi t10 t11
  have tt0 := val_lo t12 t13
  have tt1 := val_hi t12 t13
  obtain ⟨n00, n01⟩ := shv_size (val s6 s7) (-2) sv00 sv01
  obtain ⟨m00, m01⟩ := shv_size (val t6 t7) (-3) tv00 tv01
  obtain ⟨n10, n11⟩ := shv_size (val s8 s9) (-2) sv10 sv11
  obtain ⟨m10, m11⟩ := shv_size (val t8 t9) (-3) tv10 tv11
  obtain ⟨n20, n21⟩ := shv_size (val s10 s11) (-2) sv20 sv21
  obtain ⟨m20, m21⟩ := shv_size (val t10 t11) (-3) tv20 tv21
  have C2 := fun w => vsub_any t0 t1 t2 t3 t4 t5 s0 s1 s2 s3 s4 s5 ht00 ht01 ht10 ht11 ht20 ht21 ht30 ht31 ht40 ht41 ht50 ht51 hs00 hs01 hs10 hs11 hs20 hs21 hs30 hs31 hs40 hs41 hs50 hs51 w
  have C3 := fun w => vscaleV (sat (val t0 t1 - val s0 s1) 268435455) (sat (val t2 t3 - val s2 s3) 268435455) (sat (val t4 t5 - val s4 s5) 268435455) (sat_lo _ _ (by omega)) (sat_hi _ _ (by omega)) (sat_lo _ _ (by omega)) (sat_hi _ _ (by omega)) (sat_lo _ _ (by omega)) (sat_hi _ _ (by omega)) w
  have C4 := fun w => vshift_any s6 s7 s8 s9 s10 s11 (-2) hs60 hs61 hs70 hs71 hs80 hs81 hs90 hs91 hs100 hs101 hs110 hs111 (by omega) (by omega) w
  have C5 := fun w => vshift_any t6 t7 t8 t9 t10 t11 (-3) ht60 ht61 ht70 ht71 ht80 ht81 ht90 ht91 ht100 ht101 ht110 ht111 (by omega) (by omega) w
  have C6 := fun w => vaddV (shv (val s6 s7) (-2)) (shv (val s8 s9) (-2)) (shv (val s10 s11) (-2)) (shv (val t6 t7) (-3)) (shv (val t8 t9) (-3)) (shv (val t10 t11) (-3)) n00 n01 n10 n11 n20 n21 m00 m01 m10 m11 m20 m21 w
  have C7 := fun w => vsubV (cmp' (val s0 s1) (val t0 t1) ((val t12 t13))) (cmp' (val s2 s3) (val t2 t3) ((val t12 t13))) (cmp' (val s4 s5) (val t4 t5) ((val t12 t13))) (cmu (val s6 s7) (val t6 t7) ((val t12 t13))) (cmu (val s8 s9) (val t8 t9) ((val t12 t13))) (cmu (val s10 s11) (val t10 t11) ((val t12 t13))) (dvv_size _ _ tt0 tt1).1 (dvv_size _ _ tt0 tt1).2 (dvv_size _ _ tt0 tt1).1 (dvv_size _ _ tt0 tt1).2 (dvv_size _ _ tt0 tt1).1 (dvv_size _ _ tt0 tt1).2 (dvv_size _ _ tt0 tt1).1 (dvv_size _ _ tt0 tt1).2 (dvv_size _ _ tt0 tt1).1 (dvv_size _ _ tt0 tt1).2 (dvv_size _ _ tt0 tt1).1 (dvv_size _ _ tt0 tt1).2 w
  have C1 := fun w => value_any t12 t13 ht120 ht121 ht130 ht131 w
  have hd := le_of_dec hT
  have K1 := fun o bt bo w h1 h2 h3 h4 h5 h6 h7 => closV (cmg (val s0 s1) (val t0 t1) ((val t12 t13))) (cmg (val s2 s3) (val t2 t3) ((val t12 t13))) (cmg (val s4 s5) (val t4 t5) ((val t12 t13))) t12 t13 o (mulv_size _ _ (sat_lo _ _ (by omega)) (sat_hi _ _ (by omega)) (by omega) (by omega)).1 (mulv_size _ _ (sat_lo _ _ (by omega)) (sat_hi _ _ (by omega)) (by omega) (by omega)).2 (mulv_size _ _ (sat_lo _ _ (by omega)) (sat_hi _ _ (by omega)) (by omega) (by omega)).1 (mulv_size _ _ (sat_lo _ _ (by omega)) (sat_hi _ _ (by omega)) (by omega) (by omega)).2 (mulv_size _ _ (sat_lo _ _ (by omega)) (sat_hi _ _ (by omega)) (by omega) (by omega)).1 (mulv_size _ _ (sat_lo _ _ (by omega)) (sat_hi _ _ (by omega)) (by omega) (by omega)).2 ht120 ht121 ht130 ht131 bt bo w h1 h2 h3 h4 h5 h6 h7
  have K2 := fun o bt bo w h1 h2 h3 h4 h5 h6 h7 => closV (cmh (val s0 s1) (val t0 t1) ((val t12 t13))) (cmh (val s2 s3) (val t2 t3) ((val t12 t13))) (cmh (val s4 s5) (val t4 t5) ((val t12 t13))) t12 t13 o (dvv_size _ _ tt0 tt1).1 (dvv_size _ _ tt0 tt1).2 (dvv_size _ _ tt0 tt1).1 (dvv_size _ _ tt0 tt1).2 (dvv_size _ _ tt0 tt1).1 (dvv_size _ _ tt0 tt1).2 ht120 ht121 ht130 ht131 bt bo w h1 h2 h3 h4 h5 h6 h7
  have K3 := fun o bt bo w h1 h2 h3 h4 h5 h6 h7 => closV (cmv (val s6 s7) (val t6 t7)) (cmv (val s8 s9) (val t8 t9)) (cmv (val s10 s11) (val t10 t11)) t12 t13 o (sat_lo _ _ (by omega)) (sat_hi _ _ (by omega)) (sat_lo _ _ (by omega)) (sat_hi _ _ (by omega)) (sat_lo _ _ (by omega)) (sat_hi _ _ (by omega)) ht120 ht121 ht130 ht131 bt bo w h1 h2 h3 h4 h5 h6 h7
  change ∀ (o : Bool) (bt bo : Nat) (w : World), _ → _ → _ → _ → _ → _ → _ → Calls Try.prog _ #[_, _, _] w fun e w' => e = .returned (.agg #[.int .u16 (hi (cmh (val s0 s1) (val t0 t1) ((val t12 t13)))), .int .u16 (lo (cmh (val s0 s1) (val t0 t1) ((val t12 t13)))), .int .u16 (hi (cmh (val s2 s3) (val t2 t3) ((val t12 t13)))), .int .u16 (lo (cmh (val s2 s3) (val t2 t3) ((val t12 t13)))), .int .u16 (hi (cmh (val s4 s5) (val t4 t5) ((val t12 t13)))), .int .u16 (lo (cmh (val s4 s5) (val t4 t5) ((val t12 t13))))]) ∧ Below w.heap.size (w.setCell ⟨bo, 0, none⟩ (.bool (o || ((cm1 (val s0 s1) (val t0 t1) ((val t12 t13))) || (cm1 (val s2 s3) (val t2 t3) ((val t12 t13))) || (cm1 (val s4 s5) (val t4 t5) ((val t12 t13))))))) w' at K1
  change ∀ (o : Bool) (bt bo : Nat) (w : World), _ → _ → _ → _ → _ → _ → _ → Calls Try.prog _ #[_, _, _] w fun e w' => e = .returned (.agg #[.int .u16 (hi (cmp' (val s0 s1) (val t0 t1) ((val t12 t13)))), .int .u16 (lo (cmp' (val s0 s1) (val t0 t1) ((val t12 t13)))), .int .u16 (hi (cmp' (val s2 s3) (val t2 t3) ((val t12 t13)))), .int .u16 (lo (cmp' (val s2 s3) (val t2 t3) ((val t12 t13)))), .int .u16 (hi (cmp' (val s4 s5) (val t4 t5) ((val t12 t13)))), .int .u16 (lo (cmp' (val s4 s5) (val t4 t5) ((val t12 t13))))]) ∧ Below w.heap.size (w.setCell ⟨bo, 0, none⟩ (.bool (o || ((cm2 (val s0 s1) (val t0 t1) ((val t12 t13))) || (cm2 (val s2 s3) (val t2 t3) ((val t12 t13))) || (cm2 (val s4 s5) (val t4 t5) ((val t12 t13))))))) w' at K2
  change ∀ (o : Bool) (bt bo : Nat) (w : World), _ → _ → _ → _ → _ → _ → _ → Calls Try.prog _ #[_, _, _] w fun e w' => e = .returned (.agg #[.int .u16 (hi (cmu (val s6 s7) (val t6 t7) ((val t12 t13)))), .int .u16 (lo (cmu (val s6 s7) (val t6 t7) ((val t12 t13)))), .int .u16 (hi (cmu (val s8 s9) (val t8 t9) ((val t12 t13)))), .int .u16 (lo (cmu (val s8 s9) (val t8 t9) ((val t12 t13)))), .int .u16 (hi (cmu (val s10 s11) (val t10 t11) ((val t12 t13)))), .int .u16 (lo (cmu (val s10 s11) (val t10 t11) ((val t12 t13))))]) ∧ Below w.heap.size (w.setCell ⟨bo, 0, none⟩ (.bool (o || ((cm3 (val s6 s7) (val t6 t7) ((val t12 t13))) || (cm3 (val s8 s9) (val t8 t9) ((val t12 t13))) || (cm3 (val s10 s11) (val t10 t11) ((val t12 t13))))))) w' at K3
  change ∀ w, Calls Try.prog _ _ w fun e w' => e = .returned (.tuple #[(.agg #[.int .u16 (hi (sat (val t0 t1 - val s0 s1) 268435455)), .int .u16 (lo (sat (val t0 t1 - val s0 s1) 268435455)), .int .u16 (hi (sat (val t2 t3 - val s2 s3) 268435455)), .int .u16 (lo (sat (val t2 t3 - val s2 s3) 268435455)), .int .u16 (hi (sat (val t4 t5 - val s4 s5) 268435455)), .int .u16 (lo (sat (val t4 t5 - val s4 s5) 268435455))]), .bool ((cma (val s0 s1) (val t0 t1)) || (cma (val s2 s3) (val t2 t3)) || (cma (val s4 s5) (val t4 t5)))]) ∧ _ at C2
  change ∀ w, Calls Try.prog _ _ w fun e w' => e = .returned (.tuple #[(.agg #[.int .u16 (hi (cmv (val s6 s7) (val t6 t7))), .int .u16 (lo (cmv (val s6 s7) (val t6 t7))), .int .u16 (hi (cmv (val s8 s9) (val t8 t9))), .int .u16 (lo (cmv (val s8 s9) (val t8 t9))), .int .u16 (hi (cmv (val s10 s11) (val t10 t11))), .int .u16 (lo (cmv (val s10 s11) (val t10 t11)))]), .bool ((cmb (val s6 s7) (val t6 t7)) || (cmb (val s8 s9) (val t8 t9)) || (cmb (val s10 s11) (val t10 t11)))]) ∧ _ at C6
  change ∀ w, Calls Try.prog _ _ w fun e w' => e = .returned (.tuple #[(.agg #[.int .u16 (hi (cmc (val s0 s1) (val s6 s7) (val t0 t1) (val t6 t7) ((val t12 t13)))), .int .u16 (lo (cmc (val s0 s1) (val s6 s7) (val t0 t1) (val t6 t7) ((val t12 t13)))), .int .u16 (hi (cmc (val s2 s3) (val s8 s9) (val t2 t3) (val t8 t9) ((val t12 t13)))), .int .u16 (lo (cmc (val s2 s3) (val s8 s9) (val t2 t3) (val t8 t9) ((val t12 t13)))), .int .u16 (hi (cmc (val s4 s5) (val s10 s11) (val t4 t5) (val t10 t11) ((val t12 t13)))), .int .u16 (lo (cmc (val s4 s5) (val s10 s11) (val t4 t5) (val t10 t11) ((val t12 t13))))]), .bool ((cmd (val s0 s1) (val s6 s7) (val t0 t1) (val t6 t7) ((val t12 t13))) || (cmd (val s2 s3) (val s8 s9) (val t2 t3) (val t8 t9) ((val t12 t13))) || (cmd (val s4 s5) (val s10 s11) (val t4 t5) (val t10 t11) ((val t12 t13))))]) ∧ _ at C7
  change ∀ w, Calls Try.prog _ _ w fun e w' => e = .returned (.agg #[.int .u16 (hi (cmg (val s0 s1) (val t0 t1) ((val t12 t13)))), .int .u16 (lo (cmg (val s0 s1) (val t0 t1) ((val t12 t13)))), .int .u16 (hi (cmg (val s2 s3) (val t2 t3) ((val t12 t13)))), .int .u16 (lo (cmg (val s2 s3) (val t2 t3) ((val t12 t13)))), .int .u16 (hi (cmg (val s4 s5) (val t4 t5) ((val t12 t13)))), .int .u16 (lo (cmg (val s4 s5) (val t4 t5) ((val t12 t13))))]) ∧ _ at C3
  generalize ((cm1 (val s0 s1) (val t0 t1) ((val t12 t13))) || (cm1 (val s2 s3) (val t2 t3) ((val t12 t13))) || (cm1 (val s4 s5) (val t4 t5) ((val t12 t13)))) = X1 at *
  generalize ((cm2 (val s0 s1) (val t0 t1) ((val t12 t13))) || (cm2 (val s2 s3) (val t2 t3) ((val t12 t13))) || (cm2 (val s4 s5) (val t4 t5) ((val t12 t13)))) = X2 at *
  generalize ((cm3 (val s6 s7) (val t6 t7) ((val t12 t13))) || (cm3 (val s8 s9) (val t8 t9) ((val t12 t13))) || (cm3 (val s10 s11) (val t10 t11) ((val t12 t13)))) = X3 at *
  generalize ((cma (val s0 s1) (val t0 t1)) || (cma (val s2 s3) (val t2 t3)) || (cma (val s4 s5) (val t4 t5))) = XA at *
  generalize ((cmb (val s6 s7) (val t6 t7)) || (cmb (val s8 s9) (val t8 t9)) || (cmb (val s10 s11) (val t10 t11))) = XB at *
  generalize ((cmd (val s0 s1) (val s6 s7) (val t0 t1) (val t6 t7) ((val t12 t13))) || (cmd (val s2 s3) (val s8 s9) (val t2 t3) (val t8 t9) ((val t12 t13))) || (cmd (val s4 s5) (val s10 s11) (val t4 t5) (val t10 t11) ((val t12 t13)))) = XD at *
  cases X1
  · cases X2
    · have hq' : X3 = false := by simpa using hq
      subst hq'
      cases XA
      · cases XB
        · simpa using cmd_d _ _ _ _ _ _ _ _ _ _ _ _ _ _ _ _ _ _ _ _ _ _ _ _ _ _ _ _ _ _ _ _ _ _ _ _ _ _ _ _ _ _ _ _ _ _ _ _ _ _ _ _ _ _ _ _ _ _ _ _ _ _ _ _ _ _ _ _ _ _ _ _ _ _ _ _ _ _ _ _ _ _ _ XD C1 hd C2 C3 (fun bt bo w h1 h2 h3 h4 h5 h6 h7 => by rw [World.size_setCell]; simpa using K1 false bt bo w h1 h2 h3 h4 h5 h6 h7) (fun bt bo w h1 h2 h3 h4 h5 h6 h7 => by rw [World.size_setCell]; simpa using K2 false bt bo w h1 h2 h3 h4 h5 h6 h7) C4 C5 C6 (fun bt bo w h1 h2 h3 h4 h5 h6 h7 => by have h := K3 false bt bo w h1 h2 h3 h4 h5 h6 h7; simp only [Bool.true_or, Bool.or_false, Bool.false_or] at h; rwa [setCell_id h6] at h) C7 w
        · simpa using cmd_b _ _ _ _ _ _ _ _ _ _ _ _ _ _ _ _ _ _ _ _ _ _ _ _ _ _ _ _ _ _ _ _ _ _ _ _ _ _ _ _ _ _ _ _ _ _ _ _ _ _ _ _ _ _ _ _ _ _ _ _ _ _ _ _ _ _ _ _ _ _ _ _ _ _ _ _ _ _ _ _ _ _ _ XD C1 hd C2 C3 (fun bt bo w h1 h2 h3 h4 h5 h6 h7 => by rw [World.size_setCell]; simpa using K1 false bt bo w h1 h2 h3 h4 h5 h6 h7) (fun bt bo w h1 h2 h3 h4 h5 h6 h7 => by rw [World.size_setCell]; simpa using K2 false bt bo w h1 h2 h3 h4 h5 h6 h7) C4 C5 C6 (fun bt bo w h1 h2 h3 h4 h5 h6 h7 => by have h := K3 false bt bo w h1 h2 h3 h4 h5 h6 h7; simp only [Bool.true_or, Bool.or_false, Bool.false_or] at h; rwa [setCell_id h6] at h) C7 w
      · simpa using cmd_a _ _ _ _ _ _ _ _ _ _ _ _ _ _ _ _ _ _ _ _ _ _ _ _ _ _ _ _ _ _ _ _ _ _ _ _ _ _ _ _ _ _ _ _ _ _ _ _ _ _ _ _ _ _ _ _ _ _ _ _ _ _ _ _ _ _ _ _ _ _ _ _ _ _ _ _ _ _ _ _ _ _ _ XB XD C1 hd C2 C3 (fun bt bo w h1 h2 h3 h4 h5 h6 h7 => by rw [World.size_setCell]; simpa using K1 false bt bo w h1 h2 h3 h4 h5 h6 h7) (fun bt bo w h1 h2 h3 h4 h5 h6 h7 => by rw [World.size_setCell]; simpa using K2 false bt bo w h1 h2 h3 h4 h5 h6 h7) C4 C5 C6 (fun bt bo w h1 h2 h3 h4 h5 h6 h7 => by have h := K3 false bt bo w h1 h2 h3 h4 h5 h6 h7; simp only [Bool.true_or, Bool.or_false, Bool.false_or] at h; rwa [setCell_id h6] at h) C7 w
    · simpa using cmd_u _ _ _ _ _ _ _ _ _ _ _ _ _ _ _ _ _ _ _ _ _ _ _ _ _ _ _ _ _ _ _ _ _ _ _ _ _ _ _ _ _ _ _ _ _ _ _ _ _ _ _ _ _ _ _ _ _ _ _ _ _ _ _ _ _ _ _ _ _ _ _ _ _ _ _ _ _ _ _ _ _ _ _ XA XB XD C1 hd C2 C3 (fun bt bo w h1 h2 h3 h4 h5 h6 h7 => by rw [World.size_setCell]; simpa using K1 false bt bo w h1 h2 h3 h4 h5 h6 h7) (fun bt bo w h1 h2 h3 h4 h5 h6 h7 => by rw [World.size_setCell]; simpa using K2 false bt bo w h1 h2 h3 h4 h5 h6 h7) C4 C5 C6 (fun bt bo w h1 h2 h3 h4 h5 h6 h7 => by have h := K3 true bt bo w h1 h2 h3 h4 h5 h6 h7; simp only [Bool.true_or, Bool.or_false, Bool.false_or] at h; rwa [setCell_id h6] at h) C7 w
  · simpa using cmd_t _ _ _ _ _ _ _ _ _ _ _ _ _ _ _ _ _ _ _ _ _ _ _ _ _ _ _ _ _ _ _ _ _ _ _ _ _ _ _ _ _ _ _ _ _ _ _ _ _ _ _ _ _ _ _ _ _ _ _ _ _ _ _ _ _ _ _ _ _ _ _ _ _ _ _ _ _ _ _ _ _ _ _ XA XB XD C1 hd C2 C3 (fun bt bo w h1 h2 h3 h4 h5 h6 h7 => by rw [World.size_setCell]; simpa using K1 false bt bo w h1 h2 h3 h4 h5 h6 h7) (fun bt bo w h1 h2 h3 h4 h5 h6 h7 => by rw [World.size_setCell]; simpa using K2 true bt bo w h1 h2 h3 h4 h5 h6 h7) C4 C5 C6 (fun bt bo w h1 h2 h3 h4 h5 h6 h7 => by have h := K3 true bt bo w h1 h2 h3 h4 h5 h6 h7; simp only [Bool.true_or, Bool.or_false, Bool.false_or] at h; rwa [setCell_id h6] at h) C7 w
end Go.Proofs.Ytpmocegfiniafaa
