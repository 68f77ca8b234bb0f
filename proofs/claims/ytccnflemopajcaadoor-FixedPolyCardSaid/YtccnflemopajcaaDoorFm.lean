/- Contracts of MulTriple, of package fixed and of the reference, over this translation. -/
import Derived.Test.YtccnflemopajcaaDoorFa
import Derived.Test.YtccnflemopajcaaDoorKd
import Derived.Test.YtccnflemopajcaaDoorRa
namespace Go.Proofs.YtccnflemopajcaaDoor
set_option linter.unusedSimpArgs false
set_option linter.unusedVariables false
open Go.RowKit

def mtv (a b : Int) : Int := rnd (a * b) 16384
theorem mtv_size (a b : Int) (ha : -268435455 ≤ a) (ha' : a ≤ 268435455) (hb : -268435455 ≤ b) (hb' : b ≤ 268435455) : -4398046511103 ≤ mtv a b ∧ mtv a b ≤ 4398046511103 := by
  have := fmul_bd a b ha ha' hb hb'
  unfold mtv
  exact ⟨rnd_ge _ _ _ (by omega) (by omega), rnd_le _ _ _ (by omega) (by omega)⟩

set_option maxHeartbeats 1000000 in
theorem multri_any (x y z u : Int) (hx0 : 0 ≤ x) (hx1 : x < 65536) (hy0 : 0 ≤ y) (hy1 : y < 65536) (hz0 : 0 ≤ z) (hz1 : z < 65536) (hu0 : 0 ≤ u) (hu1 : u < 65536) (w : World) :
    Calls Tryd.prog 16 #[(.agg #[.int .u16 (x), .int .u16 (y)]), (.agg #[.int .u16 (z), .int .u16 (u)])] w fun e w' => e = .returned (.agg #[.int .u16 (th (mtv (val x y) (val z u))), .int .u16 (tm (mtv (val x y) (val z u))), .int .u16 (lo (mtv (val x y) (val z u)))]) ∧ Below w.heap.size w w' := by
  have k0 := val_lo x y
  have k1 := val_hi x y
  have k2 := val_lo z u
  have k3 := val_hi z u
  obtain ⟨p0, p1⟩ := fmul_bd (val x y) (val z u) k0 k1 k2 k3
  obtain ⟨m0, m1⟩ := mtv_size (val x y) (val z u) k0 k1 k2 k3
  have em : rnd (val x y * val z u) 16384 = mtv (val x y) (val z u) := rfl
  have EM := keep em
  clear em
  go_enter Tryd.func16, Tryd.ntmps16
  go_wp2_with fail
  have hecr1 := @Ext.cell2
  refine wp_region_floatl 10 9 _ _ _ _ _ (.cells #[.int .u16 0, .int .u16 0, .int .u16 0] 29) (by kernel_rfl) rfl rfl (by kernel_rfl) (by kernel_rfl) rfl rfl rfl rfl (fun _ _ => by simp [go_sem]) (fun _ _ d _ _ h => by cases d <;> exact h) (by kernel_rfl) (by kernel_rfl) rfl ?_
  apply Exists.intro
  refine ⟨fun W' => ?_, ?_⟩
  · simp only [List.take_succ_cons, List.take_zero]
    repeat (first | go_big_quiet_skip | (go_big_quiet_want; go_big_quiet_op; first | go_big_quiet_on | (go_big_quiet_call ((first | fail | (go_at_call 35; exact ext_call (value_any _ _ (by assumption) (by assumption) (by assumption) (by assumption) _)) | (go_at_call 34; exact ext_call (fquot_any _ 16384 (by omega) (by omega) (by omega) (by omega) _)) | (go_at_call 36; exact ext_call (maketri_in _ (by rw [EM.out]; exact m0) (by rw [EM.out]; exact m1) _)))))))
    exact wpQuiet_nil rfl
  clear hecr1
  simp only [List.drop_succ_cons, List.drop_zero, Act.put, List.setIfInBounds_toArray, List.set_cons_zero, List.set_cons_succ]
  intro B1 r1 hbr1 hBr1 hDr1 hEr1
  have hGr1_0 := block_cell hEr1 0
  have hGr1_1 := block_cell hEr1 1
  have hGr1_2 := block_cell hEr1 2
  have hFr1 := block_free hEr1
  simp only [List.getElem?_toArray, List.getElem?_cons_zero, List.getElem?_cons_succ] at hGr1_0 hGr1_1 hGr1_2
  clear hEr1
  try simp only [World.size_alloc, World.size_setCell, World.size_drew] at hBr1
  obtain ⟨hcr1, hfr1⟩ := bcell hbr1
  have hzr1 := hbr1.size
  try simp only [World.size_alloc, World.size_setCell, World.size_drew] at hzr1
  have hlr1w0 : w.heap.size < r1.heap.size := by omega
  have hlr1w1 : w.heap.size + 1 < r1.heap.size := by omega
  have hlr1w2 : w.heap.size + 1 + 1 < r1.heap.size := by omega
  go_wp2
  refine bodyPost_ret (v := (.agg #[.int .u16 (th (rnd (val x y * val z u) 16384)), .int .u16 (tm (rnd (val x y * val z u) 16384)), .int .u16 (lo (rnd (val x y * val z u) 16384))])) (by simp [results, Tryd.results16, go_sem, *]) rfl ⟨by rw [EM.out], ?_⟩; exact (by repeat' (first | (with_reducible exact Below.refl _ _) | (with_reducible refine bl_set ?_ _ ?_) | (with_reducible refine bl_alloc ?_ _) | (with_reducible refine bl_drew ?_) | (with_reducible refine bl_via (by with_reducible assumption) ?_) | (with_reducible assumption) | omega | (simp only []; omega) | (simp; omega)))

set_option maxHeartbeats 1000000 in
theorem rmultri_any (x y z u : Int) (hx0 : 0 ≤ x) (hx1 : x < 65536) (hy0 : 0 ≤ y) (hy1 : y < 65536) (hz0 : 0 ≤ z) (hz1 : z < 65536) (hu0 : 0 ≤ u) (hu1 : u < 65536) (w : World) :
    Calls Tryd.prog 17 #[(.agg #[.int .u16 (x), .int .u16 (y)]), (.agg #[.int .u16 (z), .int .u16 (u)])] w fun e w' => e = .returned (.agg #[.int .u16 (th (mtv (val x y) (val z u))), .int .u16 (tm (mtv (val x y) (val z u))), .int .u16 (lo (mtv (val x y) (val z u)))]) ∧ Below w.heap.size w w' := by
  have k0 := val_lo x y
  have k1 := val_hi x y
  have k2 := val_lo z u
  have k3 := val_hi z u
  obtain ⟨p0, p1⟩ := fmul_bd (val x y) (val z u) k0 k1 k2 k3
  obtain ⟨m0, m1⟩ := mtv_size (val x y) (val z u) k0 k1 k2 k3
  have em : rnd (val x y * val z u) 16384 = mtv (val x y) (val z u) := rfl
  have EM := keep em
  clear em
  go_enter Tryd.func17, Tryd.ntmps17
  go_wp2_with fail
  have hecr1 := @Ext.cell
  refine wp_region_ext_tail 7 (by kernel_rfl) (by kernel_rfl) ?_
  simp only [List.take_succ_cons, List.take_zero, List.drop_succ_cons, List.drop_zero]
  repeat (first | go_big_quiet_skip | (go_big_quiet_want; go_big_quiet_op; first | go_big_quiet_on | (go_big_quiet_call ((first | fail | (go_at_call 18; exact ext_call (rvalue_any _ _ (by assumption) (by assumption) (by assumption) (by assumption) _)) | (go_at_call 22; exact ext_call (rround_any _ 16384 (by omega) (by omega) (by omega) (by omega) _)) | (go_at_call 37; exact ext_call (rtriple_any _ (by rw [EM.out]; exact m0) (by rw [EM.out]; exact m1) _)))))))
  clear hecr1
  refine wpQuiet_nil ?_
  rintro r1 ⟨⟨_, hbr1⟩, rfl⟩
  obtain ⟨hcr1, hfr1⟩ := bcell hbr1
  have hzr1 := hbr1.size
  try simp only [World.size_alloc, World.size_setCell, World.size_drew] at hzr1
  have hlr1w0 : w.heap.size < r1.heap.size := by omega
  have hlr1w1 : w.heap.size + 1 < r1.heap.size := by omega
  have hlr1w2 : w.heap.size + 1 + 1 < r1.heap.size := by omega
  go_wp2
  refine bodyPost_ret (v := (.agg #[.int .u16 (th (rnd (val x y * val z u) 16384)), .int .u16 (tm (rnd (val x y * val z u) 16384)), .int .u16 (lo (rnd (val x y * val z u) 16384))])) (by simp [results, Tryd.results17, go_sem, *]) rfl ⟨by rw [EM.out], ?_⟩; exact (by repeat' (first | (with_reducible exact Below.refl _ _) | (with_reducible refine bl_set ?_ _ ?_) | (with_reducible refine bl_alloc ?_ _) | (with_reducible refine bl_drew ?_) | (with_reducible refine bl_via (by with_reducible assumption) ?_) | (with_reducible assumption) | omega | (simp only []; omega) | (simp; omega)))
end Go.Proofs.YtccnflemopajcaaDoor
