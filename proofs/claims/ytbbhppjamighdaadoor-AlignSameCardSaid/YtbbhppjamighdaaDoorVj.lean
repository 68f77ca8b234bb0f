/- Contracts of vector.Turned, vector.Product and of the reference's Product, from what their callees hand back. -/
import Derived.Test.YtbbhppjamighdaaDoorKf
namespace Go.Proofs.YtbbhppjamighdaaDoor
set_option linter.unusedSimpArgs false
set_option linter.unusedVariables false
open Go.RowKit

set_option maxRecDepth 100000 in
set_option maxHeartbeats 1000000 in
theorem turned_of (m00 m01 m02 m03 m04 m05 m10 m11 m12 m13 m14 m15 m20 m21 m22 m23 m24 m25 t00 t01 t02 t03 t04 t05 t10 t11 t12 t13 t14 t15 t20 t21 t22 t23 t24 t25 a0 a1 a2 a3 a4 a5 x0 x1 x2 x3 x4 x5 : Int) (o : Bool)
    (hT : ∀ w, Calls Tryd.prog 53 #[(.agg #[.int .u16 (m00), .int .u16 (m01), .int .u16 (m02), .int .u16 (m03), .int .u16 (m04), .int .u16 (m05), .int .u16 (m10), .int .u16 (m11), .int .u16 (m12), .int .u16 (m13), .int .u16 (m14), .int .u16 (m15), .int .u16 (m20), .int .u16 (m21), .int .u16 (m22), .int .u16 (m23), .int .u16 (m24), .int .u16 (m25)])] w fun e w' => e = .returned (.agg #[.int .u16 (t00), .int .u16 (t01), .int .u16 (t02), .int .u16 (t03), .int .u16 (t04), .int .u16 (t05), .int .u16 (t10), .int .u16 (t11), .int .u16 (t12), .int .u16 (t13), .int .u16 (t14), .int .u16 (t15), .int .u16 (t20), .int .u16 (t21), .int .u16 (t22), .int .u16 (t23), .int .u16 (t24), .int .u16 (t25)]) ∧ Below w.heap.size w w')
    (hX : ∀ w, Calls Tryd.prog 58 #[(.agg #[.int .u16 (t00), .int .u16 (t01), .int .u16 (t02), .int .u16 (t03), .int .u16 (t04), .int .u16 (t05), .int .u16 (t10), .int .u16 (t11), .int .u16 (t12), .int .u16 (t13), .int .u16 (t14), .int .u16 (t15), .int .u16 (t20), .int .u16 (t21), .int .u16 (t22), .int .u16 (t23), .int .u16 (t24), .int .u16 (t25)]), (.agg #[.int .u16 (a0), .int .u16 (a1), .int .u16 (a2), .int .u16 (a3), .int .u16 (a4), .int .u16 (a5)])] w fun e w' => e = .returned (.tuple #[(.agg #[.int .u16 (x0), .int .u16 (x1), .int .u16 (x2), .int .u16 (x3), .int .u16 (x4), .int .u16 (x5)]), .bool o]) ∧ Below w.heap.size w w') (w : World) :
    Calls Tryd.prog 77 #[(.agg #[.int .u16 (m00), .int .u16 (m01), .int .u16 (m02), .int .u16 (m03), .int .u16 (m04), .int .u16 (m05), .int .u16 (m10), .int .u16 (m11), .int .u16 (m12), .int .u16 (m13), .int .u16 (m14), .int .u16 (m15), .int .u16 (m20), .int .u16 (m21), .int .u16 (m22), .int .u16 (m23), .int .u16 (m24), .int .u16 (m25)]), (.agg #[.int .u16 (a0), .int .u16 (a1), .int .u16 (a2), .int .u16 (a3), .int .u16 (a4), .int .u16 (a5)])] w fun e w' => e = .returned (.tuple #[(.agg #[.int .u16 (x0), .int .u16 (x1), .int .u16 (x2), .int .u16 (x3), .int .u16 (x4), .int .u16 (x5)]), .bool o]) ∧ Below w.heap.size w w' := by
  go_enter Tryd.func77, Tryd.ntmps77
  go_wp2_with fail
  refine wp_gen (fun W => Below w.heap.size w W ∧ w.heap.size + 3 ≤ W.heap.size ∧ W.rangeAt w.heap.size 0 [.int .u16 m00, .int .u16 m01, .int .u16 m02, .int .u16 m03, .int .u16 m04, .int .u16 m05, .int .u16 m10, .int .u16 m11, .int .u16 m12, .int .u16 m13, .int .u16 m14, .int .u16 m15, .int .u16 m20, .int .u16 m21, .int .u16 m22, .int .u16 m23, .int .u16 m24, .int .u16 m25] ∧ W.rangeAt (w.heap.size + 1) 0 [.int .u16 a0, .int .u16 a1, .int .u16 a2, .int .u16 a3, .int .u16 a4, .int .u16 a5] ∧ W.there (w.heap.size + 1 + 1) 0 6) ⟨(by repeat' (first | (with_reducible exact Below.refl _ _) | (with_reducible refine bl_set ?_ _ ?_) | (with_reducible refine bl_alloc ?_ _) | (with_reducible refine bl_drew ?_) | (with_reducible refine bl_via (by with_reducible assumption) ?_) | (with_reducible assumption) | omega | (simp only []; omega) | (simp; omega))), by simp, range_row (c := #[.int .u16 m00, .int .u16 m01, .int .u16 m02, .int .u16 m03, .int .u16 m04, .int .u16 m05, .int .u16 m10, .int .u16 m11, .int .u16 m12, .int .u16 m13, .int .u16 m14, .int .u16 m15, .int .u16 m20, .int .u16 m21, .int .u16 m22, .int .u16 m23, .int .u16 m24, .int .u16 m25]) (t := 29) (fr := (0, 0)) (by repeat (first | exact heap_new (by simp only [World.size_alloc]) | exact heap_new rfl | refine heap_old (by (try simp only [World.size_alloc]); omega) ?_)), range_row (c := #[.int .u16 a0, .int .u16 a1, .int .u16 a2, .int .u16 a3, .int .u16 a4, .int .u16 a5]) (t := 27) (fr := (0, 0)) (by repeat (first | exact heap_new (by simp only [World.size_alloc]) | exact heap_new rfl | refine heap_old (by (try simp only [World.size_alloc]); omega) ?_)), there_row (c := #[.int .u16 0, .int .u16 0, .int .u16 0, .int .u16 0, .int .u16 0, .int .u16 0]) (t := 27) (by repeat (first | exact heap_new (by simp only [World.size_alloc]) | exact heap_new rfl | refine heap_old (by (try simp only [World.size_alloc]); omega) ?_)) (by simp)⟩ ?_
  rintro W0 ⟨hb0, hs0, hm0, ha0, hr0⟩
  have hecr1 := @Ext.cell
  refine wp_region_ext_tail 6 (by kernel_rfl) (by kernel_rfl) ?_
  simp only [List.take_succ_cons, List.take_zero, List.drop_succ_cons, List.drop_zero]
  repeat (first | (refine wpQuiet_loadm rfl 29 (.tmp 2) rfl _ _ rfl [.int .u16 m00, .int .u16 m01, .int .u16 m02, .int .u16 m03, .int .u16 m04, .int .u16 m05, .int .u16 m10, .int .u16 m11, .int .u16 m12, .int .u16 m13, .int .u16 m14, .int .u16 m15, .int .u16 m20, .int .u16 m21, .int .u16 m22, .int .u16 m23, .int .u16 m24, .int .u16 m25] _ (by rintro _ ⟨u, rfl⟩; exact range_on hm0 u.h (by omega)) hu_mat rfl hi_mat ?_; simp only [Act.put, List.setIfInBounds_toArray, List.set_cons_zero, List.set_cons_succ]) | (refine wpQuiet_loadm rfl 27 (.tmp 3) rfl _ _ rfl [.int .u16 a0, .int .u16 a1, .int .u16 a2, .int .u16 a3, .int .u16 a4, .int .u16 a5] _ (by rintro _ ⟨u, rfl⟩; exact range_on ha0 u.h (by omega)) hu_vec rfl hi_vec ?_; simp only [Act.put, List.setIfInBounds_toArray, List.set_cons_zero, List.set_cons_succ]) | go_big_quiet_skip | (go_big_quiet_want; go_big_quiet_op; first | go_big_quiet_on | (go_big_quiet_call ((first | fail | (go_at_call 53; exact ext_call (hT _)) | (go_at_call 58; exact ext_call (hX _)))))))
  clear hecr1
  refine wpQuiet_nil ?_
  rintro r1 ⟨⟨_, hbr1⟩, rfl⟩
  obtain ⟨hcr1, hfr1⟩ := bcell hbr1
  have hzr1 := hbr1.size
  try simp only [World.size_alloc, World.size_setCell, World.size_drew] at hzr1
  have hr1 := there_on hr0 hbr1 (by omega)
  clear hm0 ha0 hr0
  go_wp2_with (first | (refine wpList_store_mid rfl 27 (.tmp 4) (.tmp 10) rfl (w.heap.size + 1 + 1) 0 _ rfl rfl hr1 hi_vec (by simp [Value.oneCell']) ?_; simp only [Act.put, List.setIfInBounds_toArray, List.set_cons_zero, List.set_cons_succ]))
  refine bodyPost_ret (v := (.tuple #[(.agg #[.int .u16 (x0), .int .u16 (x1), .int .u16 (x2), .int .u16 (x3), .int .u16 (x4), .int .u16 (x5)]), .bool o])) (results_two Tryd.results77 rfl rfl (run_loadVar_mid _ _ 0 _ _ _ (World.rangeAt_setCells_same _ _ _ _ hr1) hu_vec rfl hi_vec)) rfl ⟨rfl, bl_cells _ _ _ _ (bl_via hbr1 hb0) (by omega)⟩

/-- What the product's cells hold when the rows before i are filled. -/
def pcell (g : Nat → Int) (i o : Nat) : Int := if o < i * 6 then g o else 0
theorem pcell_0 (g : Nat → Int) (o : Nat) : pcell g 0 o = 0 := by unfold pcell; rw [if_neg (by omega)]
theorem pcell_3 (g : Nat → Int) (o : Nat) (h : o < 18) : pcell g 3 o = g o := by unfold pcell; rw [if_pos (by omega)]
theorem pcell_next (g : Nat → Int) (i o : Nat) :
    (if o < i * 6 then pcell g i o else if h : o - i * 6 < [g (i * 6), g (i * 6 + 1), g (i * 6 + 2), g (i * 6 + 3), g (i * 6 + 4), g (i * 6 + 5)].length then [g (i * 6), g (i * 6 + 1), g (i * 6 + 2), g (i * 6 + 3), g (i * 6 + 4), g (i * 6 + 5)][o - i * 6] else pcell g i o) = pcell g (i + 1) o := by
  unfold pcell
  by_cases c : o < i * 6
  · rw [if_pos c, if_pos c, if_pos (by omega)]
  · rw [if_neg c]
    by_cases d : o - i * 6 < 6
    · rw [dif_pos (by simpa using d), if_pos (by omega)]
      rcases (show o = i * 6 ∨ o = i * 6 + 1 ∨ o = i * 6 + 2 ∨ o = i * 6 + 3 ∨ o = i * 6 + 4 ∨ o = i * 6 + 5 by omega) with e | e | e | e | e | e <;> subst e <;> simp
    · rw [dif_neg (by simpa using d), if_neg c, if_neg (by omega)]
/-- Is one of the first i true? -/
def orb (ob : Nat → Bool) : Nat → Bool
  | 0 => false
  | i + 1 => orb ob i || ob i

set_option maxRecDepth 100000 in
set_option maxHeartbeats 4000000 in
theorem product_fn (f h g : Nat → Int) (ob : Nat → Bool)
    (H : ∀ i, i < 3 → ∀ w, Calls Tryd.prog 77 #[(.agg #[.int .u16 (h 0), .int .u16 (h 1), .int .u16 (h 2), .int .u16 (h 3), .int .u16 (h 4), .int .u16 (h 5), .int .u16 (h 6), .int .u16 (h 7), .int .u16 (h 8), .int .u16 (h 9), .int .u16 (h 10), .int .u16 (h 11), .int .u16 (h 12), .int .u16 (h 13), .int .u16 (h 14), .int .u16 (h 15), .int .u16 (h 16), .int .u16 (h 17)]), (.agg #[.int .u16 (f (i * 6)), .int .u16 (f (i * 6 + 1)), .int .u16 (f (i * 6 + 2)), .int .u16 (f (i * 6 + 3)), .int .u16 (f (i * 6 + 4)), .int .u16 (f (i * 6 + 5))])] w fun e w' => e = .returned (.tuple #[(.agg #[.int .u16 (g (i * 6)), .int .u16 (g (i * 6 + 1)), .int .u16 (g (i * 6 + 2)), .int .u16 (g (i * 6 + 3)), .int .u16 (g (i * 6 + 4)), .int .u16 (g (i * 6 + 5))]), .bool (ob i)]) ∧ Below w.heap.size w w') (w : World) :
    Calls Tryd.prog 52 #[(.agg #[.int .u16 (f 0), .int .u16 (f 1), .int .u16 (f 2), .int .u16 (f 3), .int .u16 (f 4), .int .u16 (f 5), .int .u16 (f 6), .int .u16 (f 7), .int .u16 (f 8), .int .u16 (f 9), .int .u16 (f 10), .int .u16 (f 11), .int .u16 (f 12), .int .u16 (f 13), .int .u16 (f 14), .int .u16 (f 15), .int .u16 (f 16), .int .u16 (f 17)]), (.agg #[.int .u16 (h 0), .int .u16 (h 1), .int .u16 (h 2), .int .u16 (h 3), .int .u16 (h 4), .int .u16 (h 5), .int .u16 (h 6), .int .u16 (h 7), .int .u16 (h 8), .int .u16 (h 9), .int .u16 (h 10), .int .u16 (h 11), .int .u16 (h 12), .int .u16 (h 13), .int .u16 (h 14), .int .u16 (h 15), .int .u16 (h 16), .int .u16 (h 17)])] w fun e w' => e = .returned (.tuple #[(.agg #[.int .u16 (g 0), .int .u16 (g 1), .int .u16 (g 2), .int .u16 (g 3), .int .u16 (g 4), .int .u16 (g 5), .int .u16 (g 6), .int .u16 (g 7), .int .u16 (g 8), .int .u16 (g 9), .int .u16 (g 10), .int .u16 (g 11), .int .u16 (g 12), .int .u16 (g 13), .int .u16 (g 14), .int .u16 (g 15), .int .u16 (g 16), .int .u16 (g 17)]), .bool (orb ob 3)]) ∧ Below w.heap.size w w' := by
  go_enter Tryd.func52, Tryd.ntmps52
  go_wp2_with fail
  refine wp_gen (fun W => Below w.heap.size w W ∧ w.heap.size + 1 + 1 + 1 + 1 ≤ W.heap.size ∧ Holds W w.heap.size 18 f ∧ Holds W (w.heap.size + 1) 18 h ∧ Holds W (w.heap.size + 1 + 1) 18 (fun _ => 0) ∧ Loose W (w.heap.size + 1 + 1) ∧ Holds W (w.heap.size + 1 + 1 + 1) 18 (pcell g 0) ∧ Loose W (w.heap.size + 1 + 1 + 1)) ⟨(by repeat' (first | (with_reducible exact Below.refl _ _) | (with_reducible refine bl_set ?_ _ ?_) | (with_reducible refine bl_alloc ?_ _) | (with_reducible refine bl_drew ?_) | (with_reducible refine bl_via (by with_reducible assumption) ?_) | (with_reducible assumption) | omega | (simp only []; omega) | (simp; omega))), by simp, ?_, ?_, ?_, ?_, ?_, ?_⟩ ?_
  · apply all18 <;> go_simp
  · apply all18 <;> go_simp
  · apply all18 <;> go_simp
  · intro o; go_simp
  · exact Holds.congr (g := fun _ => 0) (by apply all18 <;> go_simp) (fun o _ => (pcell_0 g o).symm)
  · intro o; go_simp
  rintro W0 ⟨hb0, hs0, hm0, hn0, hr0, hrf0, ht0, htf0⟩
  go_loopw [7, 11] (fun out v W => ∃ i : Nat, i ≤ 3 ∧ v = .int .i64 i ∧ out = .bool (orb ob i) ∧ Below w.heap.size w W ∧ w.heap.size + 1 + 1 + 1 + 1 ≤ W.heap.size ∧ Holds W w.heap.size 18 f ∧ Holds W (w.heap.size + 1) 18 h ∧ Holds W (w.heap.size + 1 + 1) 18 (fun _ => 0) ∧ Loose W (w.heap.size + 1 + 1) ∧ Holds W (w.heap.size + 1 + 1 + 1) 18 (pcell g i) ∧ Loose W (w.heap.size + 1 + 1 + 1)) (fun _ v _ => (3 - intOf v).toNat)
  case atStart => exact ⟨0, by omega, rfl, rfl, hb0, hs0, hm0, hn0, hr0, hrf0, ht0, htf0⟩
  case round =>
    obtain ⟨i, hI, rfl, rfl, hb1, hs1, hm1, hn1, hr1, hrf1, ht1, htf1⟩ := hrel
    by_cases hlt : i < 3
    · have H2 := H i hlt
      have hsz : w.heap.size < wr.heap.size := by omega
      have hQn : ∀ (W' : Ext wr) (u : Ext W'.w), u.w.rangeAt (w.heap.size + 1) 0 [.int .u16 (h 0), .int .u16 (h 1), .int .u16 (h 2), .int .u16 (h 3), .int .u16 (h 4), .int .u16 (h 5), .int .u16 (h 6), .int .u16 (h 7), .int .u16 (h 8), .int .u16 (h 9), .int .u16 (h 10), .int .u16 (h 11), .int .u16 (h 12), .int .u16 (h 13), .int .u16 (h 14), .int .u16 (h 15), .int .u16 (h 16), .int .u16 (h 17)] := fun W' u => ((hn1.on W'.h (by omega)).on u.h (Nat.lt_of_lt_of_le (by omega) W'.h.size)).range18 (by omega)
      have hQm : ∀ (W' : Ext wr) (u : Ext W'.w), u.w.rangeAt w.heap.size (i * 6) [.int .u16 (f (i * 6)), .int .u16 (f (i * 6 + 1)), .int .u16 (f (i * 6 + 2)), .int .u16 (f (i * 6 + 3)), .int .u16 (f (i * 6 + 4)), .int .u16 (f (i * 6 + 5))] := fun W' u => ((hm1.on W'.h (by omega)).on u.h (Nat.lt_of_lt_of_le (by omega) W'.h.size)).range6 (i * 6) (by omega)
      cases hout : orb ob i
      all_goals
        go_wp2_with fail
        have hecr2 := @Ext.cell2
        refine wp_region_floatl 8 7 _ _ _ _ _ (.cells #[.int .u16 0, .int .u16 0, .int .u16 0, .int .u16 0, .int .u16 0, .int .u16 0] 27) (by kernel_rfl) rfl rfl (by kernel_rfl) (by kernel_rfl) rfl rfl rfl rfl (fun _ _ => by simp [go_sem]) (fun _ _ d _ _ h => by cases d <;> exact h) (by kernel_rfl) (by kernel_rfl) rfl ?_
        apply Exists.intro
        refine ⟨fun W' => ?_, ?_⟩
        · simp only [List.take_succ_cons, List.take_zero]
          repeat (first | (refine wpQuiet_loadm rfl 29 (.tmp 3) rfl _ _ rfl [.int .u16 (h 0), .int .u16 (h 1), .int .u16 (h 2), .int .u16 (h 3), .int .u16 (h 4), .int .u16 (h 5), .int .u16 (h 6), .int .u16 (h 7), .int .u16 (h 8), .int .u16 (h 9), .int .u16 (h 10), .int .u16 (h 11), .int .u16 (h 12), .int .u16 (h 13), .int .u16 (h 14), .int .u16 (h 15), .int .u16 (h 16), .int .u16 (h 17)] _ (by rintro _ ⟨u, rfl⟩; exact hQn _ u) hu_mat rfl hi_mat ?_; simp only [Act.put, List.setIfInBounds_toArray, List.set_cons_zero, List.set_cons_succ]) | (refine wpQuiet_loadm rfl 27 (.tmp 17) rfl _ _ rfl [.int .u16 (f (i * 6)), .int .u16 (f (i * 6 + 1)), .int .u16 (f (i * 6 + 2)), .int .u16 (f (i * 6 + 3)), .int .u16 (f (i * 6 + 4)), .int .u16 (f (i * 6 + 5))] _ (by rintro _ ⟨u, rfl⟩; exact hQm _ u) hu_vec rfl hi_vec ?_; simp only [Act.put, List.setIfInBounds_toArray, List.set_cons_zero, List.set_cons_succ]) | go_big_quiet_skip | (go_big_quiet_want; go_big_quiet_op; first | go_big_quiet_on | (go_big_quiet_call ((first | fail | (go_at_call 77; exact ext_call (H2 _)))))))
          exact wpQuiet_nil rfl
        clear hecr2
        simp only [List.drop_succ_cons, List.drop_zero, Act.put, List.setIfInBounds_toArray, List.set_cons_zero, List.set_cons_succ]
        intro B2 r2 hbr2 hBr2 hDr2 hEr2
        have hGr2_0 := block_cell hEr2 0
        have hGr2_1 := block_cell hEr2 1
        have hGr2_2 := block_cell hEr2 2
        have hGr2_3 := block_cell hEr2 3
        have hGr2_4 := block_cell hEr2 4
        have hGr2_5 := block_cell hEr2 5
        have hFr2 := block_free hEr2
        simp only [List.getElem?_toArray, List.getElem?_cons_zero, List.getElem?_cons_succ] at hGr2_0 hGr2_1 hGr2_2 hGr2_3 hGr2_4 hGr2_5
        clear hEr2
        try simp only [World.size_alloc, World.size_setCell, World.size_drew] at hBr2
        obtain ⟨hcr2, hfr2⟩ := bcell hbr2
        have hzr2 := hbr2.size
        try simp only [World.size_alloc, World.size_setCell, World.size_drew] at hzr2
        have hm2 := hm1.on hbr2 (by omega)
        have hn2 := hn1.on hbr2 (by omega)
        have hr2 := hr1.on hbr2 (by omega)
        have hrf2 := hrf1.on hbr2 (by omega)
        have ht2 := ht1.on hbr2 (by omega)
        have htf2 := htf1.on hbr2 (by omega)
        have hth := ht2.there htf2 (i * 6) 6 (by omega)
        clear hm1 hn1 hr1 hrf1 ht1 htf1 hQn hQm
        have hthB := there6 hGr2_0 hGr2_1 hGr2_2 hGr2_3 hGr2_4 hGr2_5 hFr2
        refine wpList_store_mid rfl 27 (.tmp 9) (.tmp 20) rfl B2 0 _ rfl rfl hthB hi_vec (by simp [Value.oneCell']) ?_
        refine wpList_gen (fun W => Below w.heap.size w W ∧ w.heap.size + 1 + 1 + 1 + 1 ≤ W.heap.size ∧ Holds W w.heap.size 18 f ∧ Holds W (w.heap.size + 1) 18 h ∧ Holds W (w.heap.size + 1 + 1) 18 (fun _ => 0) ∧ Loose W (w.heap.size + 1 + 1) ∧ Holds W (w.heap.size + 1 + 1 + 1) 18 (pcell g i) ∧ Loose W (w.heap.size + 1 + 1 + 1) ∧ W.rangeAt B2 0 [.int .u16 (g (i * 6)), .int .u16 (g (i * 6 + 1)), .int .u16 (g (i * 6 + 2)), .int .u16 (g (i * 6 + 3)), .int .u16 (g (i * 6 + 4)), .int .u16 (g (i * 6 + 5))]) ⟨bl_cells _ _ _ _ (bl_via hbr2 hb1) (by omega), by rw [size_cells]; omega, hm2.apart _ _ (by omega), hn2.apart _ _ (by omega), hr2.apart _ _ (by omega), hrf2.cells _ _ _, ht2.apart _ _ (by omega), htf2.cells _ _ _, World.rangeAt_setCells_same _ _ _ _ hthB⟩ ?_
        clear hthB hm2 hn2 hr2 hrf2 ht2 htf2 hbr2 hcr2 hfr2 hGr2_0 hGr2_1 hGr2_2 hGr2_3 hGr2_4 hGr2_5 hFr2
        rintro r3 ⟨hb3, hs3, hm3, hn3, hr3, hrf3, ht3, htf3, hB3⟩
        simp only [Act.put, List.setIfInBounds_toArray, List.set_cons_zero, List.set_cons_succ]
        have hth3 := ht3.there htf3 (i * 6) 6 (by omega)
        cases hov : ob i
        all_goals
          go_wp2_with (first | (refine wpList_load_mid (op := { dst := some 23, op := .load 27 (.tmp 9), type := _, pos := _, after := _, guard := none }) rfl 27 (.tmp 9) rfl B2 0 rfl _ _ hB3 hu_vec rfl hi_vec ?_; simp only [Act.put, List.setIfInBounds_toArray, List.set_cons_zero, List.set_cons_succ]) | (refine wpList_store_mid (op := { dst := none, op := .store 27 (.tmp 28) (.tmp 23), type := _, pos := _, after := _, guard := none }) rfl 27 (.tmp 28) (.tmp 23) rfl (w.heap.size + 1 + 1 + 1) (i * 6) _ rfl rfl hth3 hi_vec (by simp [Value.oneCell']) ?_; simp only [Act.put, List.setIfInBounds_toArray, List.set_cons_zero, List.set_cons_succ]))
          go_roundw
          case rel =>
            refine ⟨i + 1, by omega, by go_num, by simp [orb, hout, hov], bl_cells _ _ _ _ hb3 (by omega), by rw [size_cells]; omega, hm3.apart _ _ (by omega), hn3.apart _ _ (by omega), hr3.apart _ _ (by omega), hrf3.cells _ _ _, ?_, htf3.cells _ _ _⟩
            exact Holds.congr (ht3.cells (i * 6) [g (i * 6), g (i * 6 + 1), g (i * 6 + 2), g (i * 6 + 3), g (i * 6 + 4), g (i * 6 + 5)] (by simp; omega)) (fun o _ => pcell_next g i o)
          case measure => simp [intOf]; omega
    · obtain rfl : i = 3 := by omega
      have ht2 := ht1.congr (g' := g) (fun o ho => pcell_3 g o ho)
      have hth := hr1.there hrf1 0 18 (by omega)
      clear ht1 hrf1 hm1 hn1
      go_wp2_with (first | (refine wpList_load_mid (op := { dst := some 30, op := .load 29 (.tmp 6), type := _, pos := _, after := _, guard := none }) rfl 29 (.tmp 6) rfl (w.heap.size + 1 + 1 + 1) 0 rfl _ _ (ht2.range18 (by omega)) hu_mat rfl hi_mat ?_; simp only [Act.put, List.setIfInBounds_toArray, List.set_cons_zero, List.set_cons_succ]) | (refine wpList_store_mid (op := { dst := none, op := .store 29 (.tmp 4) (.tmp 30), type := _, pos := _, after := _, guard := none }) rfl 29 (.tmp 4) (.tmp 30) rfl (w.heap.size + 1 + 1) 0 _ rfl rfl hth hi_mat (by simp [Value.oneCell']) ?_; simp only [Act.put, List.setIfInBounds_toArray, List.set_cons_zero, List.set_cons_succ]))
      refine bodyPost_ret (v := (.tuple #[(.agg #[.int .u16 (g 0), .int .u16 (g 1), .int .u16 (g 2), .int .u16 (g 3), .int .u16 (g 4), .int .u16 (g 5), .int .u16 (g 6), .int .u16 (g 7), .int .u16 (g 8), .int .u16 (g 9), .int .u16 (g 10), .int .u16 (g 11), .int .u16 (g 12), .int .u16 (g 13), .int .u16 (g 14), .int .u16 (g 15), .int .u16 (g 16), .int .u16 (g 17)]), .bool (orb ob 3)])) (results_two Tryd.results52 rfl rfl (run_loadVar_mid _ _ 0 _ _ _ (World.rangeAt_setCells_same _ _ _ _ hth) hu_mat rfl hi_mat)) rfl ⟨rfl, bl_cells _ _ _ _ hb1 (by omega)⟩

end Go.Proofs.YtbbhppjamighdaaDoor
