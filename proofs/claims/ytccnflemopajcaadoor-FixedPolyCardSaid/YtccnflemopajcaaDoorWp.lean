/- Contract of the reference's Poly over this translation. -/
import Derived.Test.YtccnflemopajcaaDoorPp
import Derived.Test.YtccnflemopajcaaDoorWc
import Derived.Test.YtccnflemopajcaaDoorKd
import Derived.Test.YtccnflemopajcaaDoorKe
import Derived.Test.YtccnflemopajcaaDoorPc
namespace Go.Proofs.YtccnflemopajcaaDoor
set_option linter.unusedSimpArgs false
set_option linter.unusedVariables false
open Go.RowKit

set_option maxRecDepth 100000 in
set_option maxHeartbeats 4000000 in
theorem rpoly_fn (x y : Int) (hx0 : 0 ≤ x) (hx1 : x < 65536) (hy0 : 0 ≤ y) (hy1 : y < 65536) (f : Nat → Int) (hf : ∀ o, W16 (f o)) (n cap B off : Nat) (hn : n ≤ 1152921504606846976) (w : World) (hB : B < w.heap.size) (hc : ∀ o, o < 2 * n → w.cell? ⟨B, off + o, none⟩ = some (.int .u16 (f o))) :
    Calls Tryd.prog 27 #[(.agg #[.int .u16 (x), .int .u16 (y)]), .slice (some ⟨B, off, none⟩) n cap] w fun r w' => r = .returned (.tuple #[(.agg #[.int .u16 (hi ((pst (val x y) (fun i => val (f (2 * i)) (f (2 * i + 1))) n n).1)), .int .u16 (lo ((pst (val x y) (fun i => val (f (2 * i)) (f (2 * i + 1))) n n).1))]), .bool (pst (val x y) (fun i => val (f (2 * i)) (f (2 * i + 1))) n n).2]) ∧ Below w.heap.size w w' := by
  generalize hC : (fun i => val (f (2 * i)) (f (2 * i + 1))) = c
  have k0 := val_lo x y
  have k1 := val_hi x y
  have hp := pst_bd (val x y) c n
  have HP := keep hp
  clear hp
  have hl : ((n : Nat) : Int) ≤ 1152921504606846976 := by omega
  go_enter Tryd.func27, Tryd.ntmps27
  go_wp2_with fail
  refine wp_gen (fun W => Below w.heap.size w W ∧ w.heap.size + 3 ≤ W.heap.size ∧ (W.cell? ⟨w.heap.size, 0, none⟩ = some (.int .u16 x) ∧ W.cell? ⟨w.heap.size, 1, none⟩ = some (.int .u16 y)) ∧ (W.cell? ⟨w.heap.size + 1, 0, none⟩ = some (.int .u16 0) ∧ W.cell? ⟨w.heap.size + 1, 1, none⟩ = some (.int .u16 0)) ∧ Loose W (w.heap.size + 1) ∧
    (W.cell? ⟨w.heap.size + 1 + 1, 0, none⟩ = some (.int .u16 (hi (pst (val x y) c n 0).1)) ∧ W.cell? ⟨w.heap.size + 1 + 1, 1, none⟩ = some (.int .u16 (lo (pst (val x y) c n 0).1))) ∧ Loose W (w.heap.size + 1 + 1)) ⟨(by repeat' (first | (with_reducible exact Below.refl _ _) | (with_reducible refine bl_set ?_ _ ?_) | (with_reducible refine bl_alloc ?_ _) | (with_reducible refine bl_drew ?_) | (with_reducible refine bl_via (by with_reducible assumption) ?_) | (with_reducible assumption) | omega | (simp only []; omega) | (simp; omega))), by simp, ⟨by go_simp, by go_simp⟩, ⟨by go_simp, by go_simp⟩, fun o => by go_simp, ⟨?_, ?_⟩, fun o => by go_simp⟩ ?_
  · show _ = some (Value.int .u16 0); go_simp
  · show _ = some (Value.int .u16 0); go_simp
  rintro W0 ⟨hb0, hs0, hx0', hr0, hrf0, ht0, htf0⟩
  go_loopw [7, 8] (fun out v W => ∃ k : Nat, k ≤ n ∧ v = .int .i64 ((n : Int) - 1 - (k : Int)) ∧ out = .bool (pst (val x y) c n k).2 ∧ Below w.heap.size w W ∧ w.heap.size + 3 ≤ W.heap.size ∧ (W.cell? ⟨w.heap.size, 0, none⟩ = some (.int .u16 x) ∧ W.cell? ⟨w.heap.size, 1, none⟩ = some (.int .u16 y)) ∧ (W.cell? ⟨w.heap.size + 1, 0, none⟩ = some (.int .u16 0) ∧ W.cell? ⟨w.heap.size + 1, 1, none⟩ = some (.int .u16 0)) ∧ Loose W (w.heap.size + 1) ∧
    (W.cell? ⟨w.heap.size + 1 + 1, 0, none⟩ = some (.int .u16 (hi (pst (val x y) c n k).1)) ∧ W.cell? ⟨w.heap.size + 1 + 1, 1, none⟩ = some (.int .u16 (lo (pst (val x y) c n k).1))) ∧ Loose W (w.heap.size + 1 + 1)) (fun _ v _ => (intOf v + 1).toNat)
  case atStart => exact ⟨0, by omega, by simp, rfl, hb0, hs0, hx0', hr0, hrf0, ht0, htf0⟩
  case round =>
    obtain ⟨k, hk, rfl, rfl, hb1, hs1, ⟨hxa, hxb⟩, ⟨hra, hrb⟩, hrf1, ⟨hta, htb⟩, htf1⟩ := hrel
    clear hb0 hs0 hx0' hr0 hrf0 ht0 htf0
    by_cases hlt : k < n
    · have hkn : ((k : Nat) : Int) < ((n : Nat) : Int) := by omega
      obtain ⟨j, hj⟩ : ∃ j : Nat, j = n - 1 - k := ⟨_, rfl⟩
      have ej : ((n : Nat) : Int) - 1 - ((k : Nat) : Int) = ((j : Nat) : Int) := by omega
      have ej2 : j < n := by omega
      have hBw : B < wr.heap.size := by omega
      have hw0 : w.heap.size < wr.heap.size := by omega
      have hw1 : w.heap.size + 1 < wr.heap.size := by omega
      have hw2 : w.heap.size + 1 + 1 < wr.heap.size := by omega
      have hca : wr.cell? ⟨B, off + j * 2, none⟩ = some (.int .u16 (f (2 * j))) := (hb1.cell (p := ⟨B, off + j * 2, none⟩) hB).trans (by rw [show off + j * 2 = off + (2 * j) by omega]; exact hc _ (by omega))
      have hcb : wr.cell? ⟨B, off + j * 2 + 1, none⟩ = some (.int .u16 (f (2 * j + 1))) := (hb1.cell (p := ⟨B, off + j * 2 + 1, none⟩) hB).trans (by rw [show off + j * 2 + 1 = off + (2 * j + 1) by omega]; exact hc _ (by omega))
      have hcj : val (f (2 * j)) (f (2 * j + 1)) = c j := by rw [← hC]
      have htfa := htf1 0
      have htfb := htf1 1
      obtain ⟨cb0, cb1⟩ : -268435455 ≤ c j ∧ c j ≤ 268435455 := by rw [← hcj]; exact ⟨val_lo _ _, val_hi _ _⟩
      obtain ⟨f0, f1⟩ := hf (2 * j)
      obtain ⟨f2, f3⟩ := hf (2 * j + 1)
      have hstep : pst (val x y) c n (k + 1) = (sat (mulv (pst (val x y) c n k).1 (val x y) + c j) 268435455, (pst (val x y) c n k).2 || outb (mulv (pst (val x y) c n k).1 (val x y) + c j) 268435455) := by rw [hj]; rfl
      obtain ⟨a0, a1⟩ := HP.out k
      have HS := keep hstep
      clear hstep HP
      generalize (pst (val x y) c n k).1 = a at *
      generalize hgo : (pst (val x y) c n k).2 = o at *
      obtain ⟨q0, q1, q2, q3⟩ := hi_lo a a0 a1
      have va := val_of a a0 a1
      obtain ⟨m0, m1⟩ := mulv_size a (val x y) a0 a1 k0 k1
      obtain ⟨s0, s1, s2, s3⟩ := hi_lo (mulv a (val x y)) m0 m1
      have vm := val_of (mulv a (val x y)) m0 m1
      generalize hv : outb (mulv a (val x y) + c j) 268435455 = over at *
      have HJ := keep hj
      clear hj hC hkn hc
      cases o
      · cases over
        all_goals
          go_wp2_with fail
          have hecr2 := @Ext.cell
          refine wp_region_ext (by kernel_rfl) (by kernel_rfl) ?_
          repeat (first | go_big_quiet_skip | (go_big_quiet_want; go_big_quiet_op; first | go_big_quiet_on | (go_big_quiet_call ((first | fail | (go_at_call 15; exact ext_call (rmul_any _ _ _ _ (by omega) (by omega) (by omega) (by omega) (by omega) (by omega) (by omega) (by omega) _)) | (go_at_call 18; exact ext_call (rvalue_any _ _ (by omega) (by omega) (by omega) (by omega) _)))))))
          clear hecr2
          refine wpQuiet_nil ?_
          rintro r2 ⟨⟨_, hbr2⟩, rfl⟩
          obtain ⟨hcr2, hfr2⟩ := bcell hbr2
          have hzr2 := hbr2.size
          try simp only [World.size_alloc, World.size_setCell, World.size_drew] at hzr2
          have hlr2w0 : w.heap.size < r2.heap.size := by omega
          have hlr2w1 : w.heap.size + 1 < r2.heap.size := by omega
          have hlr2w2 : w.heap.size + 1 + 1 < r2.heap.size := by omega
          go_wp2_with fail
          refine (rout_any (mulv a (val x y) + c j) 268435455 (by omega) (by omega) _).mono ?_
          rintro _ _ ⟨rfl, rfl⟩
          go_wp2_with fail
          refine (rsat_any (mulv a (val x y) + c j) 268435455 (by omega) (by omega) _).mono ?_
          rintro _ _ ⟨rfl, rfl⟩
          go_wp2_with fail
          refine (rdouble_any (sat (mulv a (val x y) + c j) 268435455) (sat_lo _ _ (by omega)) (sat_hi _ _ (by omega)) _).mono ?_
          rintro _ r3 ⟨rfl, hbr3⟩
          obtain ⟨hcr3, hfr3⟩ := bcell hbr3
          have hzr3 := hbr3.size
          try simp only [World.size_alloc, World.size_setCell, World.size_drew] at hzr3
          have hlr3w0 : w.heap.size < r3.heap.size := by omega
          have hlr3w1 : w.heap.size + 1 < r3.heap.size := by omega
          have hlr3w2 : w.heap.size + 1 + 1 < r3.heap.size := by omega
          go_wp2_with fail
          go_roundw
          case rel =>
            have h0 : pst (val x y) c n (k + 1) = _ := HS.out
            refine ⟨k + 1, by omega, by simp; omega, by rw [h0]; rfl, (by repeat' (first | (with_reducible exact Below.refl _ _) | (with_reducible refine bl_set ?_ _ ?_) | (with_reducible refine bl_alloc ?_ _) | (with_reducible refine bl_drew ?_) | (with_reducible refine bl_via (by with_reducible assumption) ?_) | (with_reducible assumption) | omega | (simp only []; omega) | (simp; omega))), by simp; omega, ⟨by go_simp, by go_simp⟩, ⟨by go_simp, by go_simp⟩, fun o => ?_, ⟨by rw [h0]; go_simp, by rw [h0]; go_simp⟩, fun o => ?_⟩
            · go_simp
              exact hrf1 o
            · go_simp
              exact htf1 o
          case measure => simp [intOf]; omega
      · cases over
        all_goals
          go_wp2_with fail
          have hecr2 := @Ext.cell
          refine wp_region_ext (by kernel_rfl) (by kernel_rfl) ?_
          repeat (first | go_big_quiet_skip | (go_big_quiet_want; go_big_quiet_op; first | go_big_quiet_on | (go_big_quiet_call ((first | fail | (go_at_call 15; exact ext_call (rmul_any _ _ _ _ (by omega) (by omega) (by omega) (by omega) (by omega) (by omega) (by omega) (by omega) _)) | (go_at_call 18; exact ext_call (rvalue_any _ _ (by omega) (by omega) (by omega) (by omega) _)))))))
          clear hecr2
          refine wpQuiet_nil ?_
          rintro r2 ⟨⟨_, hbr2⟩, rfl⟩
          obtain ⟨hcr2, hfr2⟩ := bcell hbr2
          have hzr2 := hbr2.size
          try simp only [World.size_alloc, World.size_setCell, World.size_drew] at hzr2
          have hlr2w0 : w.heap.size < r2.heap.size := by omega
          have hlr2w1 : w.heap.size + 1 < r2.heap.size := by omega
          have hlr2w2 : w.heap.size + 1 + 1 < r2.heap.size := by omega
          go_wp2_with fail
          refine (rsat_any (mulv a (val x y) + c j) 268435455 (by omega) (by omega) _).mono ?_
          rintro _ _ ⟨rfl, rfl⟩
          go_wp2_with fail
          refine (rdouble_any (sat (mulv a (val x y) + c j) 268435455) (sat_lo _ _ (by omega)) (sat_hi _ _ (by omega)) _).mono ?_
          rintro _ r3 ⟨rfl, hbr3⟩
          obtain ⟨hcr3, hfr3⟩ := bcell hbr3
          have hzr3 := hbr3.size
          try simp only [World.size_alloc, World.size_setCell, World.size_drew] at hzr3
          have hlr3w0 : w.heap.size < r3.heap.size := by omega
          have hlr3w1 : w.heap.size + 1 < r3.heap.size := by omega
          have hlr3w2 : w.heap.size + 1 + 1 < r3.heap.size := by omega
          go_wp2_with fail
          go_roundw
          case rel =>
            have h0 : pst (val x y) c n (k + 1) = _ := HS.out
            refine ⟨k + 1, by omega, by simp; omega, by rw [h0]; rfl, (by repeat' (first | (with_reducible exact Below.refl _ _) | (with_reducible refine bl_set ?_ _ ?_) | (with_reducible refine bl_alloc ?_ _) | (with_reducible refine bl_drew ?_) | (with_reducible refine bl_via (by with_reducible assumption) ?_) | (with_reducible assumption) | omega | (simp only []; omega) | (simp; omega))), by simp; omega, ⟨by go_simp, by go_simp⟩, ⟨by go_simp, by go_simp⟩, fun o => ?_, ⟨by rw [h0]; go_simp, by rw [h0]; go_simp⟩, fun o => ?_⟩
            · go_simp
              exact hrf1 o
            · go_simp
              exact htf1 o
          case measure => simp [intOf]; omega
    · obtain rfl : k = n := by omega
      have hz0 := hrf1 0
      have hz1 := hrf1 1
      clear hc HP hC
      go_wp2
      refine bodyPost_ret (v := .tuple #[(.agg #[.int .u16 (hi ((pst (val x y) c k k).1)), .int .u16 (lo ((pst (val x y) c k k).1))]), .bool (pst (val x y) c k k).2]) (by simp [results, Tryd.results27, go_sem, *]) rfl ⟨rfl, ?_⟩; exact (by repeat' (first | (with_reducible exact Below.refl _ _) | (with_reducible refine bl_set ?_ _ ?_) | (with_reducible refine bl_alloc ?_ _) | (with_reducible refine bl_drew ?_) | (with_reducible refine bl_via (by with_reducible assumption) ?_) | (with_reducible assumption) | omega | (simp only []; omega) | (simp; omega)))
end Go.Proofs.YtccnflemopajcaaDoor
