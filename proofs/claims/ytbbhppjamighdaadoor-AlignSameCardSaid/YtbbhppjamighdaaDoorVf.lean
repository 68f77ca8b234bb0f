/- Contract of vector.Transpose over this translation. -/
import Derived.Test.YtbbhppjamighdaaDoorVa
import Derived.Test.YtbbhppjamighdaaDoorKf
namespace Go.Proofs.YtbbhppjamighdaaDoor
set_option linter.unusedSimpArgs false
set_option linter.unusedVariables false
open Go.RowKit

theorem canon_w (x y : Int) (hx : W16 x) (hy : W16 y) (w : World) :
    Calls Tryd.prog 38 #[(.agg #[.int .u16 (x), .int .u16 (y)])] w fun e w' => e = .returned (.agg #[.int .u16 (hi (val x y)), .int .u16 (lo (val x y))]) ∧ Below w.heap.size w w' := canon_any x y hx.1 hx.2 hy.1 hy.2 w

/-- What the transpose's cells hold when the rows before i, and of row i the columns before j, are filled. -/
def tcell (f : Nat → Int) (i j o : Nat) : Int :=
  if o / 6 < i ∨ (o / 6 = i ∧ o % 6 / 2 < j) then
    if o % 2 = 0 then hi (val (f (o % 6 / 2 * 6 + o / 6 * 2)) (f (o % 6 / 2 * 6 + o / 6 * 2 + 1))) else lo (val (f (o % 6 / 2 * 6 + o / 6 * 2)) (f (o % 6 / 2 * 6 + o / 6 * 2 + 1)))
  else 0

def tfin (f : Nat → Int) (o : Nat) : Int := if o % 2 = 0 then hi (val (f (o % 6 / 2 * 6 + o / 6 * 2)) (f (o % 6 / 2 * 6 + o / 6 * 2 + 1))) else lo (val (f (o % 6 / 2 * 6 + o / 6 * 2)) (f (o % 6 / 2 * 6 + o / 6 * 2 + 1)))
theorem tcell_0 (f : Nat → Int) (o : Nat) : tcell f 0 0 o = 0 := by unfold tcell; rw [if_neg (by omega)]

theorem tcell_next (f : Nat → Int) (i j o : Nat) (hI : i < 3) (hj : j < 3) (ho : o < 18) :
    (if o = i * 6 + j * 2 + 1 then lo (val (f (j * 6 + i * 2)) (f (j * 6 + i * 2 + 1))) else if o = i * 6 + j * 2 then hi (val (f (j * 6 + i * 2)) (f (j * 6 + i * 2 + 1))) else tcell f i j o) = tcell f i (j + 1) o := by
  unfold tcell
  by_cases e1 : o = i * 6 + j * 2 + 1
  · subst e1
    rw [if_pos rfl, if_pos (by omega), if_neg (by omega), show (i * 6 + j * 2 + 1) % 6 / 2 * 6 + (i * 6 + j * 2 + 1) / 6 * 2 = j * 6 + i * 2 by omega]
  · by_cases e2 : o = i * 6 + j * 2
    · subst e2
      rw [if_neg (by omega), if_pos rfl, if_pos (by omega), if_pos (by omega), show (i * 6 + j * 2) % 6 / 2 * 6 + (i * 6 + j * 2) / 6 * 2 = j * 6 + i * 2 by omega]
    · rw [if_neg e1, if_neg e2]
      by_cases c : o / 6 < i ∨ o / 6 = i ∧ o % 6 / 2 < j
      · rw [if_pos c, if_pos (show o / 6 < i ∨ o / 6 = i ∧ o % 6 / 2 < j + 1 by omega)]
      · rw [if_neg c, if_neg (show ¬ (o / 6 < i ∨ o / 6 = i ∧ o % 6 / 2 < j + 1) by omega)]
theorem tcell_row (f : Nat → Int) (i o : Nat) (ho : o < 18) : tcell f i 3 o = tcell f (i + 1) 0 o := by
  unfold tcell
  by_cases c : o / 6 < i ∨ o / 6 = i ∧ o % 6 / 2 < 3
  · rw [if_pos c, if_pos (show o / 6 < i + 1 ∨ o / 6 = i + 1 ∧ o % 6 / 2 < 0 by omega)]
  · rw [if_neg c, if_neg (show ¬ (o / 6 < i + 1 ∨ o / 6 = i + 1 ∧ o % 6 / 2 < 0) by omega)]

set_option maxRecDepth 100000 in
set_option maxHeartbeats 4000000 in
theorem transpose_fn (f : Nat → Int) (hf : ∀ o, W16 (f o)) (w : World) :
    Calls Tryd.prog 53 #[(.agg #[.int .u16 (f 0), .int .u16 (f 1), .int .u16 (f 2), .int .u16 (f 3), .int .u16 (f 4), .int .u16 (f 5), .int .u16 (f 6), .int .u16 (f 7), .int .u16 (f 8), .int .u16 (f 9), .int .u16 (f 10), .int .u16 (f 11), .int .u16 (f 12), .int .u16 (f 13), .int .u16 (f 14), .int .u16 (f 15), .int .u16 (f 16), .int .u16 (f 17)])] w fun r w' => r = .returned (.agg #[.int .u16 (hi (val (f 0) (f 1))), .int .u16 (lo (val (f 0) (f 1))), .int .u16 (hi (val (f 6) (f 7))), .int .u16 (lo (val (f 6) (f 7))), .int .u16 (hi (val (f 12) (f 13))), .int .u16 (lo (val (f 12) (f 13))), .int .u16 (hi (val (f 2) (f 3))), .int .u16 (lo (val (f 2) (f 3))), .int .u16 (hi (val (f 8) (f 9))), .int .u16 (lo (val (f 8) (f 9))), .int .u16 (hi (val (f 14) (f 15))), .int .u16 (lo (val (f 14) (f 15))), .int .u16 (hi (val (f 4) (f 5))), .int .u16 (lo (val (f 4) (f 5))), .int .u16 (hi (val (f 10) (f 11))), .int .u16 (lo (val (f 10) (f 11))), .int .u16 (hi (val (f 16) (f 17))), .int .u16 (lo (val (f 16) (f 17)))]) ∧ Below w.heap.size w w' := by
  go_enter Tryd.func53, Tryd.ntmps53
  go_wp2_with fail
  refine wp_gen (fun W => Below w.heap.size w W ∧ w.heap.size + 3 ≤ W.heap.size ∧ Holds W w.heap.size 18 f ∧ Holds W (w.heap.size + 1) 18 (fun _ => 0) ∧ Loose W (w.heap.size + 1) ∧ Holds W (w.heap.size + 1 + 1) 18 (tcell f 0 0) ∧ Loose W (w.heap.size + 1 + 1)) ⟨(by repeat' (first | (with_reducible exact Below.refl _ _) | (with_reducible refine bl_set ?_ _ ?_) | (with_reducible refine bl_alloc ?_ _) | (with_reducible refine bl_drew ?_) | (with_reducible refine bl_via (by with_reducible assumption) ?_) | (with_reducible assumption) | omega | (simp only []; omega) | (simp; omega))), by simp, ?_, ?_, ?_, ?_, ?_⟩ ?_
  · apply all18 <;> go_simp
  · apply all18 <;> go_simp
  · intro o; go_simp
  · exact Holds.congr (g := fun _ => 0) (by apply all18 <;> go_simp) (fun o _ => (tcell_0 f o).symm)
  · intro o; go_simp
  rintro W0 ⟨hb0, hs0, hm0, hr0, hrf0, ht0, htf0⟩
  go_loopw [6] (fun v W => ∃ i : Nat, i ≤ 3 ∧ v = .int .i64 i ∧ Below w.heap.size w W ∧ w.heap.size + 3 ≤ W.heap.size ∧ Holds W w.heap.size 18 f ∧ Holds W (w.heap.size + 1) 18 (fun _ => 0) ∧ Loose W (w.heap.size + 1) ∧ Holds W (w.heap.size + 1 + 1) 18 (tcell f i 0) ∧ Loose W (w.heap.size + 1 + 1)) (fun v _ => (3 - intOf v).toNat)
  case atStart => exact ⟨0, by omega, rfl, hb0, hs0, hm0, hr0, hrf0, ht0, htf0⟩
  case round =>
    obtain ⟨wo, rfl⟩ : ∃ wo : World, wo = wr := ⟨_, rfl⟩
    obtain ⟨i, hI, rfl, hb1, hs1, hm1, hr1, hrf1, ht1, htf1⟩ := hrel
    by_cases hlt : i < 3
    · go_wp2_with fail
      go_loopw [9] (fun v W => ∃ j : Nat, j ≤ 3 ∧ v = .int .i64 j ∧ Below w.heap.size w W ∧ w.heap.size + 3 ≤ W.heap.size ∧ Holds W w.heap.size 18 f ∧ Holds W (w.heap.size + 1) 18 (fun _ => 0) ∧ Loose W (w.heap.size + 1) ∧ Holds W (w.heap.size + 1 + 1) 18 (tcell f i j) ∧ Loose W (w.heap.size + 1 + 1)) (fun v _ => (3 - intOf v).toNat)
      case atStart => exact ⟨0, by omega, rfl, hb1, hs1, hm1, hr1, hrf1, ht1, htf1⟩
      case round =>
        clear hb1 hs1 hm1 hr1 hrf1 ht1 htf1
        obtain ⟨j, hj, rfl, hb1, hs1, hm1, hr1, hrf1, ht1, htf1⟩ := hrel
        by_cases hjt : j < 3
        · have hb2 : w.heap.size < wr.heap.size := by omega
          have hA0 : wr.cell? ⟨w.heap.size, j * 6 + i * 2, none⟩ = some (.int .u16 (f (j * 6 + i * 2))) := hm1 _ (by omega)
          have hA1 : wr.cell? ⟨w.heap.size, j * 6 + i * 2 + 1, none⟩ = some (.int .u16 (f (j * 6 + i * 2 + 1))) := hm1 _ (by omega)
          go_wp2_with fail
          have hecr1 := @Ext.cell
          refine wp_region_ext_tail 10 (by kernel_rfl) (by kernel_rfl) ?_
          simp only [List.take_succ_cons, List.take_zero, List.drop_succ_cons, List.drop_zero]
          repeat (first | go_big_quiet_skip | (go_big_quiet_want; go_big_quiet_op; first | go_big_quiet_on | (go_big_quiet_call ((first | fail | (go_at_call 38; exact ext_call (canon_w _ _ (hf _) (hf _) _)))))))
          clear hecr1
          refine wpQuiet_nil ?_
          rintro r1 ⟨⟨_, hbr1⟩, rfl⟩
          obtain ⟨hcr1, hfr1⟩ := bcell hbr1
          have hzr1 := hbr1.size
          try simp only [World.size_alloc, World.size_setCell, World.size_drew] at hzr1
          have hm2 := hm1.on hbr1 (by omega)
          have hr2 := hr1.on hbr1 (by omega)
          have hrf2 := hrf1.on hbr1 (by omega)
          have ht2 := ht1.on hbr1 (by omega)
          have htf2 := htf1.on hbr1 (by omega)
          have hT0 := ht2 (i * 6 + j * 2) (by omega)
          have hT1 := ht2 (i * 6 + j * 2 + 1) (by omega)
          have hT2 := htf2 (i * 6 + j * 2)
          have hT3 := htf2 (i * 6 + j * 2 + 1)
          clear hm1 hr1 hrf1 ht1 htf1 hA0 hA1
          go_wp2_with fail
          go_roundw
          case rel =>
            refine ⟨j + 1, by omega, by go_num, ?_, by simp; omega, (hm2.far _ _ (by omega)).far _ _ (by omega), (hr2.far _ _ (by omega)).far _ _ (by omega), (hrf2.set _ _).set _ _, ?_, (htf2.set _ _).set _ _⟩
            · exact (by repeat' (first | (with_reducible exact Below.refl _ _) | (with_reducible refine bl_set ?_ _ ?_) | (with_reducible refine bl_alloc ?_ _) | (with_reducible refine bl_drew ?_) | (with_reducible refine bl_via (by with_reducible assumption) ?_) | (with_reducible assumption) | omega | (simp only []; omega) | (simp; omega)))
            · exact Holds.congr ((ht2.set _ _ (by omega)).set _ _ (by omega)) (fun o ho => tcell_next f i j o hlt hjt ho)
          case measure => simp [intOf]; omega
        · obtain rfl : j = 3 := by omega
          go_wp2_with fail
          go_roundw
          case rel => exact ⟨i + 1, by omega, by go_num, hb1, hs1, hm1, hr1, hrf1, Holds.congr ht1 (fun o ho => tcell_row f i o ho), htf1⟩
          case measure => simp [intOf]; omega
    · obtain rfl : i = 3 := by omega
      have e : ∀ o, o < 18 → tcell f 3 0 o = tfin f o := fun o ho => by unfold tcell tfin; rw [if_pos (by omega)]
      have ht2 := ht1.congr e
      have hth := hr1.there hrf1 0 18 (by omega)
      clear e ht1 hrf1 hm1
      go_wp2_with (first | (refine wpList_load_mid rfl 29 (.tmp 3) rfl (w.heap.size + 1 + 1) 0 rfl _ _ (ht2.range18 (by omega)) hu_mat rfl hi_mat ?_) | (refine wpList_store_mid rfl 29 (.tmp 2) (.tmp 24) rfl (w.heap.size + 1) 0 _ rfl rfl hth hi_mat (by simp [Value.oneCell']) ?_))
      refine bodyPost_ret (v := (.agg #[.int .u16 (hi (val (f 0) (f 1))), .int .u16 (lo (val (f 0) (f 1))), .int .u16 (hi (val (f 6) (f 7))), .int .u16 (lo (val (f 6) (f 7))), .int .u16 (hi (val (f 12) (f 13))), .int .u16 (lo (val (f 12) (f 13))), .int .u16 (hi (val (f 2) (f 3))), .int .u16 (lo (val (f 2) (f 3))), .int .u16 (hi (val (f 8) (f 9))), .int .u16 (lo (val (f 8) (f 9))), .int .u16 (hi (val (f 14) (f 15))), .int .u16 (lo (val (f 14) (f 15))), .int .u16 (hi (val (f 4) (f 5))), .int .u16 (lo (val (f 4) (f 5))), .int .u16 (hi (val (f 10) (f 11))), .int .u16 (lo (val (f 10) (f 11))), .int .u16 (hi (val (f 16) (f 17))), .int .u16 (lo (val (f 16) (f 17)))])) (results_one Tryd.results53 rfl (run_loadVar_mid _ _ 0 _ _ _ (World.rangeAt_setCells_same _ _ _ _ hth) hu_mat rfl hi_mat)) rfl ⟨rfl, bl_cells _ _ _ _ hb1 (by omega)⟩

theorem transpose_any (m00 m01 m02 m03 m04 m05 m10 m11 m12 m13 m14 m15 m20 m21 m22 m23 m24 m25 : Int) (Wm00 : W16 m00) (Wm01 : W16 m01) (Wm02 : W16 m02) (Wm03 : W16 m03) (Wm04 : W16 m04) (Wm05 : W16 m05) (Wm10 : W16 m10) (Wm11 : W16 m11) (Wm12 : W16 m12) (Wm13 : W16 m13) (Wm14 : W16 m14) (Wm15 : W16 m15) (Wm20 : W16 m20) (Wm21 : W16 m21) (Wm22 : W16 m22) (Wm23 : W16 m23) (Wm24 : W16 m24) (Wm25 : W16 m25) (w : World) :
    Calls Tryd.prog 53 #[(.agg #[.int .u16 (m00), .int .u16 (m01), .int .u16 (m02), .int .u16 (m03), .int .u16 (m04), .int .u16 (m05), .int .u16 (m10), .int .u16 (m11), .int .u16 (m12), .int .u16 (m13), .int .u16 (m14), .int .u16 (m15), .int .u16 (m20), .int .u16 (m21), .int .u16 (m22), .int .u16 (m23), .int .u16 (m24), .int .u16 (m25)])] w fun r w' => r = .returned (.agg #[.int .u16 (hi (val m00 m01)), .int .u16 (lo (val m00 m01)), .int .u16 (hi (val m10 m11)), .int .u16 (lo (val m10 m11)), .int .u16 (hi (val m20 m21)), .int .u16 (lo (val m20 m21)), .int .u16 (hi (val m02 m03)), .int .u16 (lo (val m02 m03)), .int .u16 (hi (val m12 m13)), .int .u16 (lo (val m12 m13)), .int .u16 (hi (val m22 m23)), .int .u16 (lo (val m22 m23)), .int .u16 (hi (val m04 m05)), .int .u16 (lo (val m04 m05)), .int .u16 (hi (val m14 m15)), .int .u16 (lo (val m14 m15)), .int .u16 (hi (val m24 m25)), .int .u16 (lo (val m24 m25))]) ∧ Below w.heap.size w w' :=
  transpose_fn (pick18 m00 m01 m02 m03 m04 m05 m10 m11 m12 m13 m14 m15 m20 m21 m22 m23 m24 m25) (pick18_w Wm00 Wm01 Wm02 Wm03 Wm04 Wm05 Wm10 Wm11 Wm12 Wm13 Wm14 Wm15 Wm20 Wm21 Wm22 Wm23 Wm24 Wm25) w
end Go.Proofs.YtbbhppjamighdaaDoor
