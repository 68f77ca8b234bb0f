/- The walk of the law AlignFrames: for every input it returns true. -/
import Derived.Test.YtbbhppjamighdaaDoorAm
namespace Go.Proofs.YtbbhppjamighdaaDoor
set_option linter.unusedSimpArgs false
set_option linter.unusedVariables false
open Go.RowKit

theorem size34 (v : Int) (h0 : -9223372036854775807 ≤ v) (h1 : v ≤ 9223372036854775807) (w : World) :
    Calls Tryd.prog 23 #[.int .i64 v] w fun e w' => e = .returned (.int .i64 (mag v)) ∧ w = w' := by
  have hm : max v (-v) = mag v := by unfold mag; split <;> omega
  go_enter Tryd.func23, Tryd.ntmps23
  go_wp2
  go_ret
  exact ⟨rfl, rfl⟩
set_option maxRecDepth 100000 in
set_option maxHeartbeats 8000000 in
theorem frames_bad (a0 a1 a2 a3 a4 a5 b0 b1 b2 b3 b4 b5 : Int) (T1 : (∀ w, Calls Tryd.prog 16 #[(.agg #[.int .u16 (a0), .int .u16 (a1), .int .u16 (a2), .int .u16 (a3), .int .u16 (a4), .int .u16 (a5)]), (.agg #[.int .u16 (b0), .int .u16 (b1), .int .u16 (b2), .int .u16 (b3), .int .u16 (b4), .int .u16 (b5)])] w fun e w' => e = .returned (.tuple #[(.agg #[.int .u16 (0), .int .u16 (0), .int .u16 (0), .int .u16 (0), .int .u16 (0), .int .u16 (0), .int .u16 (0), .int .u16 (0), .int .u16 (0), .int .u16 (0), .int .u16 (0), .int .u16 (0), .int .u16 (0), .int .u16 (0), .int .u16 (0), .int .u16 (0), .int .u16 (0), .int .u16 (0)]), .int .i64 2]) ∧ Below w.heap.size w w')) (w : World) (hS : Sines w) :
    Calls Tryd.prog 6 #[(.agg #[.int .u16 (a0), .int .u16 (a1), .int .u16 (a2), .int .u16 (a3), .int .u16 (a4), .int .u16 (a5)]), (.agg #[.int .u16 (b0), .int .u16 (b1), .int .u16 (b2), .int .u16 (b3), .int .u16 (b4), .int .u16 (b5)])] w fun e w' => e = .returned (.bool true) ∧ Below w.heap.size w w' := by
  have hem := @eq_mat
  go_enter Tryd.func6, Tryd.ntmps6
  go_wp2_with fail
  refine (lives34 _ (hS.on (bl_alloc (bl_alloc (Below.refl _ _) _) _))).mono ?_
  rintro _ r0 ⟨rfl, hb0⟩
  have f0_2 : r0.rangeAt (w.heap.size) 0 [.int .u16 a0, .int .u16 a1, .int .u16 a2, .int .u16 a3, .int .u16 a4, .int .u16 a5] := range_on (w := _) (range_row (c := #[.int .u16 a0, .int .u16 a1, .int .u16 a2, .int .u16 a3, .int .u16 a4, .int .u16 a5]) (t := 27) (fr := (0, 0)) (by repeat (first | exact heap_new (by simp only [World.size_alloc]) | exact heap_new rfl | refine heap_old (by (try simp only [World.size_alloc]); omega) ?_))) hb0 (by (try simp only [World.size_alloc]); omega)
  have f0_3 : r0.rangeAt (w.heap.size + 1) 0 [.int .u16 b0, .int .u16 b1, .int .u16 b2, .int .u16 b3, .int .u16 b4, .int .u16 b5] := range_on (w := _) (range_row (c := #[.int .u16 b0, .int .u16 b1, .int .u16 b2, .int .u16 b3, .int .u16 b4, .int .u16 b5]) (t := 27) (fr := (0, 0)) (by repeat (first | exact heap_new (by simp only [World.size_alloc]) | exact heap_new rfl | refine heap_old (by (try simp only [World.size_alloc]); omega) ?_))) hb0 (by (try simp only [World.size_alloc]); omega)
  have hs0 := hb0.size
  try simp only [World.size_alloc] at hs0
  have hw0 : Below w.heap.size w r0 := (by repeat' (first | (with_reducible exact Below.refl _ _) | (with_reducible refine bl_set ?_ _ ?_) | (with_reducible refine bl_alloc ?_ _) | (with_reducible refine bl_drew ?_) | (with_reducible refine bl_via (by with_reducible assumption) ?_) | (with_reducible assumption) | omega | (simp only []; omega) | (simp; omega)))
  clear hb0
  go_wp2_with (first | fail | (refine WL.h ?_; first | (refine wl_load (op := { dst := some 16, op := .load 27 (.tmp 2), type := _, pos := _, after := _, guard := _ }) rfl 27 (.tmp 2) rfl (w.heap.size) 0 rfl [.int .u16 a0, .int .u16 a1, .int .u16 a2, .int .u16 a3, .int .u16 a4, .int .u16 a5] _ f0_2 hu_vec rfl hi_vec ?_; simp only [Act.put, List.setIfInBounds_toArray, List.set_cons_zero, List.set_cons_succ]) | (refine wl_load (op := { dst := some 17, op := .load 27 (.tmp 3), type := _, pos := _, after := _, guard := _ }) rfl 27 (.tmp 3) rfl (w.heap.size + 1) 0 rfl [.int .u16 b0, .int .u16 b1, .int .u16 b2, .int .u16 b3, .int .u16 b4, .int .u16 b5] _ f0_3 hu_vec rfl hi_vec ?_; simp only [Act.put, List.setIfInBounds_toArray, List.set_cons_zero, List.set_cons_succ])))
  refine (T1 _).mono ?_
  rintro _ r1 ⟨rfl, hb1⟩
  have hs1 := hb1.size
  have hw1 := bl_via hb1 hw0
  have f1_2 := range_on f0_2 hb1 (by omega)
  have f1_3 := range_on f0_3 hb1 (by omega)
  clear hb1 hw0 f0_2 f0_3
  go_wp2_with (first | fail | (refine WL.h ?_; first | (refine wl_store (op := { dst := none, op := .store 29 (.tmp 5) (.tmp 19), type := _, pos := _, after := _, guard := none }) rfl 29 (.tmp 5) (.tmp 19) rfl r1.heap.size 0 _ rfl rfl (there_new (c := #[.int .u16 0, .int .u16 0, .int .u16 0, .int .u16 0, .int .u16 0, .int .u16 0, .int .u16 0, .int .u16 0, .int .u16 0, .int .u16 0, .int .u16 0, .int .u16 0, .int .u16 0, .int .u16 0, .int .u16 0, .int .u16 0, .int .u16 0, .int .u16 0]) (t := 29) (by simp)) hi_mat (by simp [Value.oneCell']) ?_; refine wpList_gen (fun W => Below w.heap.size w W ∧ W.heap.size = r1.heap.size + 1 ∧ W.rangeAt (w.heap.size) 0 [.int .u16 a0, .int .u16 a1, .int .u16 a2, .int .u16 a3, .int .u16 a4, .int .u16 a5] ∧ W.rangeAt (w.heap.size + 1) 0 [.int .u16 b0, .int .u16 b1, .int .u16 b2, .int .u16 b3, .int .u16 b4, .int .u16 b5] ∧ W.rangeAt r1.heap.size 0 [.int .u16 0, .int .u16 0, .int .u16 0, .int .u16 0, .int .u16 0, .int .u16 0, .int .u16 0, .int .u16 0, .int .u16 0, .int .u16 0, .int .u16 0, .int .u16 0, .int .u16 0, .int .u16 0, .int .u16 0, .int .u16 0, .int .u16 0, .int .u16 0]) ⟨bl_cells _ _ _ _ (bl_alloc hw1 _) (by omega), size_store, range_store f1_2 (by omega), range_store f1_3 (by omega), range_here (by simp)⟩ ?_; clear f1_2 f1_3; rintro s1 ⟨hws1, hss1, fs1_2, fs1_3, fs1_5⟩; simp only [Act.put, List.setIfInBounds_toArray, List.set_cons_zero, List.set_cons_succ]) | (refine wl_load (op := { dst := some 23, op := .load 29 (.tmp 5), type := _, pos := _, after := _, guard := _ }) rfl 29 (.tmp 5) rfl (r1.heap.size) 0 rfl [.int .u16 0, .int .u16 0, .int .u16 0, .int .u16 0, .int .u16 0, .int .u16 0, .int .u16 0, .int .u16 0, .int .u16 0, .int .u16 0, .int .u16 0, .int .u16 0, .int .u16 0, .int .u16 0, .int .u16 0, .int .u16 0, .int .u16 0, .int .u16 0] _ fs1_5 hu_mat rfl hi_mat ?_; simp only [Act.put, List.setIfInBounds_toArray, List.set_cons_zero, List.set_cons_succ])))
  go_ret
  exact ⟨rfl, (by repeat' (first | (with_reducible exact Below.refl _ _) | (with_reducible refine bl_set ?_ _ ?_) | (with_reducible refine bl_alloc ?_ _) | (with_reducible refine bl_drew ?_) | (with_reducible refine bl_via (by with_reducible assumption) ?_) | (with_reducible assumption) | omega | (simp only []; omega) | (simp; omega)))⟩
set_option maxRecDepth 100000 in
set_option maxHeartbeats 8000000 in
theorem frames_walk (a0 a1 a2 a3 a4 a5 b0 b1 b2 b3 b4 b5 : Int) (f : Nat → Int) (p q v : Nat → Nat → Int)
    (T1 : (∀ w, Calls Tryd.prog 16 #[(.agg #[.int .u16 (a0), .int .u16 (a1), .int .u16 (a2), .int .u16 (a3), .int .u16 (a4), .int .u16 (a5)]), (.agg #[.int .u16 (b0), .int .u16 (b1), .int .u16 (b2), .int .u16 (b3), .int .u16 (b4), .int .u16 (b5)])] w fun e w' => e = .returned (.tuple #[(.agg #[.int .u16 (f 0), .int .u16 (f 1), .int .u16 (f 2), .int .u16 (f 3), .int .u16 (f 4), .int .u16 (f 5), .int .u16 (f 6), .int .u16 (f 7), .int .u16 (f 8), .int .u16 (f 9), .int .u16 (f 10), .int .u16 (f 11), .int .u16 (f 12), .int .u16 (f 13), .int .u16 (f 14), .int .u16 (f 15), .int .u16 (f 16), .int .u16 (f 17)]), .int .i64 0]) ∧ Below w.heap.size w w'))
    (D : ∀ i j, i < 3 → j < 3 → ∀ w, Calls Tryd.prog 21 #[(.agg #[.int .u16 (f (i * 6)), .int .u16 (f (i * 6 + 1)), .int .u16 (f (i * 6 + 2)), .int .u16 (f (i * 6 + 3)), .int .u16 (f (i * 6 + 4)), .int .u16 (f (i * 6 + 5))]), (.agg #[.int .u16 (f (j * 6)), .int .u16 (f (j * 6 + 1)), .int .u16 (f (j * 6 + 2)), .int .u16 (f (j * 6 + 3)), .int .u16 (f (j * 6 + 4)), .int .u16 (f (j * 6 + 5))])] w fun e w' => e = .returned (.tuple #[(.agg #[.int .u16 (p i j), .int .u16 (q i j)]), .bool false]) ∧ Below w.heap.size w w')
    (V : ∀ i j, i < 3 → j < 3 → ∀ w, Calls Tryd.prog 22 #[(.agg #[.int .u16 (p i j), .int .u16 (q i j)])] w fun e w' => e = .returned (.int .i64 (v i j)) ∧ Below w.heap.size w w')
    (vb : ∀ i j, i < 3 → j < 3 → -268435455 ≤ v i j ∧ v i j ≤ 268435455)
    (s1 : ∀ i, i < 3 → mag (v i i - 67108864) ≤ 4) (s2 : ∀ i j, i < 3 → j < 3 → i ≠ j → i + j = 2 → mag (v i j) ≤ 16) (s3 : ∀ i j, i < 3 → j < 3 → i ≠ j → i + j ≠ 2 → mag (v i j) ≤ 8) (w : World) (hS : Sines w) :
    Calls Tryd.prog 6 #[(.agg #[.int .u16 (a0), .int .u16 (a1), .int .u16 (a2), .int .u16 (a3), .int .u16 (a4), .int .u16 (a5)]), (.agg #[.int .u16 (b0), .int .u16 (b1), .int .u16 (b2), .int .u16 (b3), .int .u16 (b4), .int .u16 (b5)])] w fun e w' => e = .returned (.bool true) ∧ Below w.heap.size w w' := by
  have VB := keep vb
  have S1 := keep s1
  have S2 := keep s2
  have S3 := keep s3
  clear vb s1 s2 s3
  have hem := @eq_mat
  go_enter Tryd.func6, Tryd.ntmps6
  go_wp2_with fail
  refine (lives34 _ (hS.on (bl_alloc (bl_alloc (Below.refl _ _) _) _))).mono ?_
  rintro _ r0 ⟨rfl, hb0⟩
  have f0_2 : r0.rangeAt (w.heap.size) 0 [.int .u16 a0, .int .u16 a1, .int .u16 a2, .int .u16 a3, .int .u16 a4, .int .u16 a5] := range_on (w := _) (range_row (c := #[.int .u16 a0, .int .u16 a1, .int .u16 a2, .int .u16 a3, .int .u16 a4, .int .u16 a5]) (t := 27) (fr := (0, 0)) (by repeat (first | exact heap_new (by simp only [World.size_alloc]) | exact heap_new rfl | refine heap_old (by (try simp only [World.size_alloc]); omega) ?_))) hb0 (by (try simp only [World.size_alloc]); omega)
  have f0_3 : r0.rangeAt (w.heap.size + 1) 0 [.int .u16 b0, .int .u16 b1, .int .u16 b2, .int .u16 b3, .int .u16 b4, .int .u16 b5] := range_on (w := _) (range_row (c := #[.int .u16 b0, .int .u16 b1, .int .u16 b2, .int .u16 b3, .int .u16 b4, .int .u16 b5]) (t := 27) (fr := (0, 0)) (by repeat (first | exact heap_new (by simp only [World.size_alloc]) | exact heap_new rfl | refine heap_old (by (try simp only [World.size_alloc]); omega) ?_))) hb0 (by (try simp only [World.size_alloc]); omega)
  have hs0 := hb0.size
  try simp only [World.size_alloc] at hs0
  have hw0 : Below w.heap.size w r0 := (by repeat' (first | (with_reducible exact Below.refl _ _) | (with_reducible refine bl_set ?_ _ ?_) | (with_reducible refine bl_alloc ?_ _) | (with_reducible refine bl_drew ?_) | (with_reducible refine bl_via (by with_reducible assumption) ?_) | (with_reducible assumption) | omega | (simp only []; omega) | (simp; omega)))
  clear hb0
  go_wp2_with (first | fail | (refine WL.h ?_; first | (refine wl_load (op := { dst := some 16, op := .load 27 (.tmp 2), type := _, pos := _, after := _, guard := _ }) rfl 27 (.tmp 2) rfl (w.heap.size) 0 rfl [.int .u16 a0, .int .u16 a1, .int .u16 a2, .int .u16 a3, .int .u16 a4, .int .u16 a5] _ f0_2 hu_vec rfl hi_vec ?_; simp only [Act.put, List.setIfInBounds_toArray, List.set_cons_zero, List.set_cons_succ]) | (refine wl_load (op := { dst := some 17, op := .load 27 (.tmp 3), type := _, pos := _, after := _, guard := _ }) rfl 27 (.tmp 3) rfl (w.heap.size + 1) 0 rfl [.int .u16 b0, .int .u16 b1, .int .u16 b2, .int .u16 b3, .int .u16 b4, .int .u16 b5] _ f0_3 hu_vec rfl hi_vec ?_; simp only [Act.put, List.setIfInBounds_toArray, List.set_cons_zero, List.set_cons_succ])))
  refine (T1 _).mono ?_
  rintro _ r1 ⟨rfl, hb1⟩
  have hs1 := hb1.size
  have hw1 := bl_via hb1 hw0
  have f1_2 := range_on f0_2 hb1 (by omega)
  have f1_3 := range_on f0_3 hb1 (by omega)
  clear hb1 hw0 f0_2 f0_3
  go_wp2_with (first | fail | (refine WL.h ?_; first | (refine wl_store (op := { dst := none, op := .store 29 (.tmp 5) (.tmp 19), type := _, pos := _, after := _, guard := none }) rfl 29 (.tmp 5) (.tmp 19) rfl r1.heap.size 0 _ rfl rfl (there_new (c := #[.int .u16 0, .int .u16 0, .int .u16 0, .int .u16 0, .int .u16 0, .int .u16 0, .int .u16 0, .int .u16 0, .int .u16 0, .int .u16 0, .int .u16 0, .int .u16 0, .int .u16 0, .int .u16 0, .int .u16 0, .int .u16 0, .int .u16 0, .int .u16 0]) (t := 29) (by simp)) hi_mat (by simp [Value.oneCell']) ?_; refine wpList_gen (fun W => Below w.heap.size w W ∧ W.heap.size = r1.heap.size + 1 ∧ W.rangeAt (w.heap.size) 0 [.int .u16 a0, .int .u16 a1, .int .u16 a2, .int .u16 a3, .int .u16 a4, .int .u16 a5] ∧ W.rangeAt (w.heap.size + 1) 0 [.int .u16 b0, .int .u16 b1, .int .u16 b2, .int .u16 b3, .int .u16 b4, .int .u16 b5] ∧ W.rangeAt r1.heap.size 0 [.int .u16 ((f 0)), .int .u16 ((f 1)), .int .u16 ((f 2)), .int .u16 ((f 3)), .int .u16 ((f 4)), .int .u16 ((f 5)), .int .u16 ((f 6)), .int .u16 ((f 7)), .int .u16 ((f 8)), .int .u16 ((f 9)), .int .u16 ((f 10)), .int .u16 ((f 11)), .int .u16 ((f 12)), .int .u16 ((f 13)), .int .u16 ((f 14)), .int .u16 ((f 15)), .int .u16 ((f 16)), .int .u16 ((f 17))]) ⟨bl_cells _ _ _ _ (bl_alloc hw1 _) (by omega), size_store, range_store f1_2 (by omega), range_store f1_3 (by omega), range_here (by simp)⟩ ?_; clear f1_2 f1_3; rintro s1 ⟨hws1, hss1, fs1_2, fs1_3, fs1_5⟩; simp only [Act.put, List.setIfInBounds_toArray, List.set_cons_zero, List.set_cons_succ])))
  have F5 : Holds s1 (r1.heap.size) 18 f := holds_of18 fs1_5
  have hz5 : r1.heap.size < s1.heap.size := by omega
  go_loopw [7] (fun v W => ∃ i : Nat, i ≤ 3 ∧ v = .int .i64 i ∧ Below s1.heap.size s1 W) (fun v _ => (3 - intOf v).toNat)
  case atStart => exact ⟨0, by omega, rfl, Below.refl _ _⟩
  case round =>
    obtain ⟨wo, rfl⟩ : ∃ wo : World, wo = wr := ⟨_, rfl⟩
    obtain ⟨i, hI, rfl, hb1⟩ := hrel
    by_cases hlt : i < 3
    · go_wp2_with fail
      have hdt : decide ((i : Int) < 3) = true := decide_eq_true (by omega)
      simp only [hdt]
      go_loopw [8] (fun v W => ∃ j : Nat, j ≤ 3 ∧ v = .int .i64 j ∧ Below s1.heap.size s1 W) (fun v _ => (3 - intOf v).toNat)
      case atStart => exact ⟨0, by omega, rfl, hb1⟩
      case round =>
        clear hb1
        obtain ⟨j, hj, rfl, hb1⟩ := hrel
        by_cases hjt : j < 3
        · have hsz := hb1.size
          by_cases e1 : i = j
          · subst e1
            obtain ⟨v0, v1⟩ := VB.out i i hlt hlt
            have s0 := S1.out i hlt
            have d0 : decide (4 < mag (v i i - 67108864)) = false := decide_eq_false (by omega)
            have hQi : ∀ (W' : Ext wr) (u : Ext W'.w), u.w.rangeAt (r1.heap.size) (i * 6) [.int .u16 (f (i * 6)), .int .u16 (f (i * 6 + 1)), .int .u16 (f (i * 6 + 2)), .int .u16 (f (i * 6 + 3)), .int .u16 (f (i * 6 + 4)), .int .u16 (f (i * 6 + 5))] := fun W' u => (((F5.on hb1 (by omega)).on W'.h (by omega)).on u.h (Nat.lt_of_lt_of_le (by omega) W'.h.size)).range6 (i * 6) (by omega)
            have hQj : ∀ (W' : Ext wr) (u : Ext W'.w), u.w.rangeAt (r1.heap.size) (i * 6) [.int .u16 (f (i * 6)), .int .u16 (f (i * 6 + 1)), .int .u16 (f (i * 6 + 2)), .int .u16 (f (i * 6 + 3)), .int .u16 (f (i * 6 + 4)), .int .u16 (f (i * 6 + 5))] := fun W' u => (((F5.on hb1 (by omega)).on W'.h (by omega)).on u.h (Nat.lt_of_lt_of_le (by omega) W'.h.size)).range6 (i * 6) (by omega)
            go_wp2_with fail
            have hecr2 := @Ext.cell2
            refine wp_region_floatl 10 9 _ _ _ _ _ (.cells #[.int .u16 0, .int .u16 0] 25) (by kernel_rfl) rfl rfl (by kernel_rfl) (by kernel_rfl) rfl rfl rfl rfl (fun _ _ => by simp [go_sem]) (fun _ _ d _ _ h => by cases d <;> exact h) (by kernel_rfl) (by kernel_rfl) rfl ?_
            apply Exists.intro
            refine ⟨fun W' => ?_, ?_⟩
            · simp only [List.take_succ_cons, List.take_zero]
              repeat (first | (refine wpQuiet_loadm rfl 27 (.tmp 36) rfl _ _ rfl [.int .u16 (f (i * 6)), .int .u16 (f (i * 6 + 1)), .int .u16 (f (i * 6 + 2)), .int .u16 (f (i * 6 + 3)), .int .u16 (f (i * 6 + 4)), .int .u16 (f (i * 6 + 5))] _ (by rintro _ ⟨u, rfl⟩; exact hQi _ u) hu_vec rfl hi_vec ?_; simp only [Act.put, List.setIfInBounds_toArray, List.set_cons_zero, List.set_cons_succ]) | (refine wpQuiet_loadm rfl 27 (.tmp 39) rfl _ _ rfl [.int .u16 (f (i * 6)), .int .u16 (f (i * 6 + 1)), .int .u16 (f (i * 6 + 2)), .int .u16 (f (i * 6 + 3)), .int .u16 (f (i * 6 + 4)), .int .u16 (f (i * 6 + 5))] _ (by rintro _ ⟨u, rfl⟩; exact hQj _ u) hu_vec rfl hi_vec ?_; simp only [Act.put, List.setIfInBounds_toArray, List.set_cons_zero, List.set_cons_succ]) | go_big_quiet_skip | (go_big_quiet_want; go_big_quiet_op; first | go_big_quiet_on | (go_big_quiet_call ((first | fail | (go_at_call 21; with_reducible exact ext_call (D i i (by assumption) (by assumption) _)))))))
              exact wpQuiet_nil rfl
            clear hecr2
            simp only [List.drop_succ_cons, List.drop_zero, Act.put, List.setIfInBounds_toArray, List.set_cons_zero, List.set_cons_succ]
            intro B2 r2 hbr2 hBr2 hDr2 hEr2
            have hGr2_0 := block_cell hEr2 0
            have hGr2_1 := block_cell hEr2 1
            have hFr2 := block_free hEr2
            simp only [List.getElem?_toArray, List.getElem?_cons_zero, List.getElem?_cons_succ] at hGr2_0 hGr2_1
            clear hEr2
            try simp only [World.size_alloc, World.size_setCell, World.size_drew] at hBr2
            obtain ⟨hcr2, hfr2⟩ := bcell hbr2
            have hzr2 := hbr2.size
            try simp only [World.size_alloc, World.size_setCell, World.size_drew] at hzr2
            go_wp2_with fail
            refine (V i i (by assumption) (by assumption) _).mono ?_
            rintro _ r3 ⟨rfl, hbr3⟩
            obtain ⟨hcr3, hfr3⟩ := bcell hbr3
            have hzr3 := hbr3.size
            try simp only [World.size_alloc, World.size_setCell, World.size_drew] at hzr3
            have hlr3B2 : B2 < r3.heap.size := by omega
            go_wp2_with fail
            refine (size34 (v i i - 67108864) (by omega) (by omega) _).mono ?_
            rintro _ _ ⟨rfl, rfl⟩
            have hb2 : Below s1.heap.size s1 r3 := (by repeat' (first | (with_reducible exact Below.refl _ _) | (with_reducible refine bl_set ?_ _ ?_) | (with_reducible refine bl_alloc ?_ _) | (with_reducible refine bl_drew ?_) | (with_reducible refine bl_via (by with_reducible assumption) ?_) | (with_reducible assumption) | omega | (simp only []; omega) | (simp; omega)))
            clear hQi hQj hbr2 hcr2 hfr2 hGr2_0 hGr2_1 hFr2 hbr3 hcr3 hfr3 hb1
            go_wp2_with fail
            go_roundw
            case rel => exact ⟨i + 1, by omega, by go_num, hb2⟩
            case measure => simp [intOf]; omega
          · obtain ⟨v0, v1⟩ := VB.out i j hlt hjt
            by_cases e2 : i + j = 2
            · have s0 := S2.out i j hlt hjt e1 e2
              have d0 : decide (16 < mag (v i j)) = false := decide_eq_false (by omega)
              have hQi : ∀ (W' : Ext wr) (u : Ext W'.w), u.w.rangeAt (r1.heap.size) (i * 6) [.int .u16 (f (i * 6)), .int .u16 (f (i * 6 + 1)), .int .u16 (f (i * 6 + 2)), .int .u16 (f (i * 6 + 3)), .int .u16 (f (i * 6 + 4)), .int .u16 (f (i * 6 + 5))] := fun W' u => (((F5.on hb1 (by omega)).on W'.h (by omega)).on u.h (Nat.lt_of_lt_of_le (by omega) W'.h.size)).range6 (i * 6) (by omega)
              have hQj : ∀ (W' : Ext wr) (u : Ext W'.w), u.w.rangeAt (r1.heap.size) (j * 6) [.int .u16 (f (j * 6)), .int .u16 (f (j * 6 + 1)), .int .u16 (f (j * 6 + 2)), .int .u16 (f (j * 6 + 3)), .int .u16 (f (j * 6 + 4)), .int .u16 (f (j * 6 + 5))] := fun W' u => (((F5.on hb1 (by omega)).on W'.h (by omega)).on u.h (Nat.lt_of_lt_of_le (by omega) W'.h.size)).range6 (j * 6) (by omega)
              go_wp2_with fail
              have hecr2 := @Ext.cell2
              refine wp_region_floatl 10 9 _ _ _ _ _ (.cells #[.int .u16 0, .int .u16 0] 25) (by kernel_rfl) rfl rfl (by kernel_rfl) (by kernel_rfl) rfl rfl rfl rfl (fun _ _ => by simp [go_sem]) (fun _ _ d _ _ h => by cases d <;> exact h) (by kernel_rfl) (by kernel_rfl) rfl ?_
              apply Exists.intro
              refine ⟨fun W' => ?_, ?_⟩
              · simp only [List.take_succ_cons, List.take_zero]
                repeat (first | (refine wpQuiet_loadm rfl 27 (.tmp 36) rfl _ _ rfl [.int .u16 (f (i * 6)), .int .u16 (f (i * 6 + 1)), .int .u16 (f (i * 6 + 2)), .int .u16 (f (i * 6 + 3)), .int .u16 (f (i * 6 + 4)), .int .u16 (f (i * 6 + 5))] _ (by rintro _ ⟨u, rfl⟩; exact hQi _ u) hu_vec rfl hi_vec ?_; simp only [Act.put, List.setIfInBounds_toArray, List.set_cons_zero, List.set_cons_succ]) | (refine wpQuiet_loadm rfl 27 (.tmp 39) rfl _ _ rfl [.int .u16 (f (j * 6)), .int .u16 (f (j * 6 + 1)), .int .u16 (f (j * 6 + 2)), .int .u16 (f (j * 6 + 3)), .int .u16 (f (j * 6 + 4)), .int .u16 (f (j * 6 + 5))] _ (by rintro _ ⟨u, rfl⟩; exact hQj _ u) hu_vec rfl hi_vec ?_; simp only [Act.put, List.setIfInBounds_toArray, List.set_cons_zero, List.set_cons_succ]) | go_big_quiet_skip | (go_big_quiet_want; go_big_quiet_op; first | go_big_quiet_on | (go_big_quiet_call ((first | fail | (go_at_call 21; with_reducible exact ext_call (D i j (by assumption) (by assumption) _)))))))
                exact wpQuiet_nil rfl
              clear hecr2
              simp only [List.drop_succ_cons, List.drop_zero, Act.put, List.setIfInBounds_toArray, List.set_cons_zero, List.set_cons_succ]
              intro B2 r2 hbr2 hBr2 hDr2 hEr2
              have hGr2_0 := block_cell hEr2 0
              have hGr2_1 := block_cell hEr2 1
              have hFr2 := block_free hEr2
              simp only [List.getElem?_toArray, List.getElem?_cons_zero, List.getElem?_cons_succ] at hGr2_0 hGr2_1
              clear hEr2
              try simp only [World.size_alloc, World.size_setCell, World.size_drew] at hBr2
              obtain ⟨hcr2, hfr2⟩ := bcell hbr2
              have hzr2 := hbr2.size
              try simp only [World.size_alloc, World.size_setCell, World.size_drew] at hzr2
              go_wp2_with fail
              refine (V i j (by assumption) (by assumption) _).mono ?_
              rintro _ r3 ⟨rfl, hbr3⟩
              obtain ⟨hcr3, hfr3⟩ := bcell hbr3
              have hzr3 := hbr3.size
              try simp only [World.size_alloc, World.size_setCell, World.size_drew] at hzr3
              have hlr3B2 : B2 < r3.heap.size := by omega
              go_wp2_with fail
              refine (size34 (v i j) (by omega) (by omega) _).mono ?_
              rintro _ _ ⟨rfl, rfl⟩
              have hb2 : Below s1.heap.size s1 r3 := (by repeat' (first | (with_reducible exact Below.refl _ _) | (with_reducible refine bl_set ?_ _ ?_) | (with_reducible refine bl_alloc ?_ _) | (with_reducible refine bl_drew ?_) | (with_reducible refine bl_via (by with_reducible assumption) ?_) | (with_reducible assumption) | omega | (simp only []; omega) | (simp; omega)))
              clear hQi hQj hbr2 hcr2 hfr2 hGr2_0 hGr2_1 hFr2 hbr3 hcr3 hfr3 hb1
              go_wp2_with fail
              go_roundw
              case rel => exact ⟨j + 1, by omega, by go_num, hb2⟩
              case measure => simp [intOf]; omega
            · have s0 := S3.out i j hlt hjt e1 e2
              have d0 : decide (8 < mag (v i j)) = false := decide_eq_false (by omega)
              have hQi : ∀ (W' : Ext wr) (u : Ext W'.w), u.w.rangeAt (r1.heap.size) (i * 6) [.int .u16 (f (i * 6)), .int .u16 (f (i * 6 + 1)), .int .u16 (f (i * 6 + 2)), .int .u16 (f (i * 6 + 3)), .int .u16 (f (i * 6 + 4)), .int .u16 (f (i * 6 + 5))] := fun W' u => (((F5.on hb1 (by omega)).on W'.h (by omega)).on u.h (Nat.lt_of_lt_of_le (by omega) W'.h.size)).range6 (i * 6) (by omega)
              have hQj : ∀ (W' : Ext wr) (u : Ext W'.w), u.w.rangeAt (r1.heap.size) (j * 6) [.int .u16 (f (j * 6)), .int .u16 (f (j * 6 + 1)), .int .u16 (f (j * 6 + 2)), .int .u16 (f (j * 6 + 3)), .int .u16 (f (j * 6 + 4)), .int .u16 (f (j * 6 + 5))] := fun W' u => (((F5.on hb1 (by omega)).on W'.h (by omega)).on u.h (Nat.lt_of_lt_of_le (by omega) W'.h.size)).range6 (j * 6) (by omega)
              go_wp2_with fail
              have hecr2 := @Ext.cell2
              refine wp_region_floatl 10 9 _ _ _ _ _ (.cells #[.int .u16 0, .int .u16 0] 25) (by kernel_rfl) rfl rfl (by kernel_rfl) (by kernel_rfl) rfl rfl rfl rfl (fun _ _ => by simp [go_sem]) (fun _ _ d _ _ h => by cases d <;> exact h) (by kernel_rfl) (by kernel_rfl) rfl ?_
              apply Exists.intro
              refine ⟨fun W' => ?_, ?_⟩
              · simp only [List.take_succ_cons, List.take_zero]
                repeat (first | (refine wpQuiet_loadm rfl 27 (.tmp 36) rfl _ _ rfl [.int .u16 (f (i * 6)), .int .u16 (f (i * 6 + 1)), .int .u16 (f (i * 6 + 2)), .int .u16 (f (i * 6 + 3)), .int .u16 (f (i * 6 + 4)), .int .u16 (f (i * 6 + 5))] _ (by rintro _ ⟨u, rfl⟩; exact hQi _ u) hu_vec rfl hi_vec ?_; simp only [Act.put, List.setIfInBounds_toArray, List.set_cons_zero, List.set_cons_succ]) | (refine wpQuiet_loadm rfl 27 (.tmp 39) rfl _ _ rfl [.int .u16 (f (j * 6)), .int .u16 (f (j * 6 + 1)), .int .u16 (f (j * 6 + 2)), .int .u16 (f (j * 6 + 3)), .int .u16 (f (j * 6 + 4)), .int .u16 (f (j * 6 + 5))] _ (by rintro _ ⟨u, rfl⟩; exact hQj _ u) hu_vec rfl hi_vec ?_; simp only [Act.put, List.setIfInBounds_toArray, List.set_cons_zero, List.set_cons_succ]) | go_big_quiet_skip | (go_big_quiet_want; go_big_quiet_op; first | go_big_quiet_on | (go_big_quiet_call ((first | fail | (go_at_call 21; with_reducible exact ext_call (D i j (by assumption) (by assumption) _)))))))
                exact wpQuiet_nil rfl
              clear hecr2
              simp only [List.drop_succ_cons, List.drop_zero, Act.put, List.setIfInBounds_toArray, List.set_cons_zero, List.set_cons_succ]
              intro B2 r2 hbr2 hBr2 hDr2 hEr2
              have hGr2_0 := block_cell hEr2 0
              have hGr2_1 := block_cell hEr2 1
              have hFr2 := block_free hEr2
              simp only [List.getElem?_toArray, List.getElem?_cons_zero, List.getElem?_cons_succ] at hGr2_0 hGr2_1
              clear hEr2
              try simp only [World.size_alloc, World.size_setCell, World.size_drew] at hBr2
              obtain ⟨hcr2, hfr2⟩ := bcell hbr2
              have hzr2 := hbr2.size
              try simp only [World.size_alloc, World.size_setCell, World.size_drew] at hzr2
              go_wp2_with fail
              refine (V i j (by assumption) (by assumption) _).mono ?_
              rintro _ r3 ⟨rfl, hbr3⟩
              obtain ⟨hcr3, hfr3⟩ := bcell hbr3
              have hzr3 := hbr3.size
              try simp only [World.size_alloc, World.size_setCell, World.size_drew] at hzr3
              have hlr3B2 : B2 < r3.heap.size := by omega
              go_wp2_with fail
              refine (size34 (v i j) (by omega) (by omega) _).mono ?_
              rintro _ _ ⟨rfl, rfl⟩
              have hb2 : Below s1.heap.size s1 r3 := (by repeat' (first | (with_reducible exact Below.refl _ _) | (with_reducible refine bl_set ?_ _ ?_) | (with_reducible refine bl_alloc ?_ _) | (with_reducible refine bl_drew ?_) | (with_reducible refine bl_via (by with_reducible assumption) ?_) | (with_reducible assumption) | omega | (simp only []; omega) | (simp; omega)))
              clear hQi hQj hbr2 hcr2 hfr2 hGr2_0 hGr2_1 hFr2 hbr3 hcr3 hfr3 hb1
              go_wp2_with fail
              go_roundw
              case rel => exact ⟨j + 1, by omega, by go_num, hb2⟩
              case measure => simp [intOf]; omega
        · obtain rfl : j = 3 := by omega
          go_wp2_with fail
          go_roundw
          case rel => exact ⟨i + 1, by omega, by go_num, hb1⟩
          case measure => simp [intOf]; omega
    · obtain rfl : i = 3 := by omega
      clear F5
      have hw9 := bl_via hb1 hws1
      go_wp2
      go_ret
      exact ⟨rfl, (by repeat' (first | (with_reducible exact Below.refl _ _) | (with_reducible refine bl_set ?_ _ ?_) | (with_reducible refine bl_alloc ?_ _) | (with_reducible refine bl_drew ?_) | (with_reducible refine bl_via (by with_reducible assumption) ?_) | (with_reducible assumption) | omega | (simp only []; omega) | (simp; omega)))⟩
def pick9 (a b c d e f g h k : Int) : Nat → Nat → Int
  | 0, 0 => a
  | 0, 1 => b
  | 0, _ => c
  | 1, 0 => d
  | 1, 1 => e
  | 1, _ => f
  | _, 0 => g
  | _, 1 => h
  | _, _ => k
theorem nine {P : Nat → Nat → Prop} (h00 : P 0 0) (h01 : P 0 1) (h02 : P 0 2) (h10 : P 1 0) (h11 : P 1 1) (h12 : P 1 2) (h20 : P 2 0) (h21 : P 2 1) (h22 : P 2 2) : ∀ i j, i < 3 → j < 3 → P i j := fun i j hi hj => by
  rcases (show i = 0 ∨ i = 1 ∨ i = 2 by omega) with rfl | rfl | rfl <;> rcases (show j = 0 ∨ j = 1 ∨ j = 2 by omega) with rfl | rfl | rfl
  · exact h00
  · exact h01
  · exact h02
  · exact h10
  · exact h11
  · exact h12
  · exact h20
  · exact h21
  · exact h22
theorem rdot_V (u v x a b c : Int) (u_0 : -268435455 ≤ u) (u_1 : u ≤ 268435455) (v_0 : -268435455 ≤ v) (v_1 : v ≤ 268435455) (x_0 : -268435455 ≤ x) (x_1 : x ≤ 268435455) (a_0 : -268435455 ≤ a) (a_1 : a ≤ 268435455) (b_0 : -268435455 ≤ b) (b_1 : b ≤ 268435455) (c_0 : -268435455 ≤ c) (c_1 : c ≤ 268435455) (h0 : -268435455 ≤ rnd (dot u v x a b c) 268435456) (h1 : rnd (dot u v x a b c) 268435456 ≤ 268435455) (w : World) : Calls Tryd.prog 21 #[(.agg #[.int .u16 (hi (u)), .int .u16 (lo (u)), .int .u16 (hi (v)), .int .u16 (lo (v)), .int .u16 (hi (x)), .int .u16 (lo (x))]), (.agg #[.int .u16 (hi (a)), .int .u16 (lo (a)), .int .u16 (hi (b)), .int .u16 (lo (b)), .int .u16 (hi (c)), .int .u16 (lo (c))])] w fun e w' => e = .returned (.tuple #[(.agg #[.int .u16 (hi (rnd (dot u v x a b c) 268435456)), .int .u16 (lo (rnd (dot u v x a b c) 268435456))]), .bool false]) ∧ Below w.heap.size w w' := by
  have q_u := hi_lo u u_0 u_1
  have q_v := hi_lo v v_0 v_1
  have q_x := hi_lo x x_0 x_1
  have q_a := hi_lo a a_0 a_1
  have q_b := hi_lo b b_0 b_1
  have q_c := hi_lo c c_0 c_1
  have k := rdot_any (hi u) (lo u) (hi v) (lo v) (hi x) (lo x) (hi a) (lo a) (hi b) (lo b) (hi c) (lo c) (by omega) (by omega) (by omega) (by omega) (by omega) (by omega) (by omega) (by omega) (by omega) (by omega) (by omega) (by omega) (by omega) (by omega) (by omega) (by omega) (by omega) (by omega) (by omega) (by omega) (by omega) (by omega) (by omega) (by omega) w
  rw [val_of u u_0 u_1, val_of v v_0 v_1, val_of x x_0 x_1, val_of a a_0 a_1, val_of b b_0 b_1, val_of c c_0 c_1, sat_in _ _ h0 h1, outb_in _ _ h0 h1] at k
  exact k
theorem near_rnd (T m : Int) (h0 : -(m * 268435456) ≤ T) (h1 : T ≤ m * 268435456) : -m ≤ rnd T 268435456 ∧ rnd T 268435456 ≤ m := ⟨rnd_ge _ _ _ (by omega) (by omega), rnd_le _ _ _ (by omega) h1⟩
theorem dot_comm3 (u v x a b c : Int) : dot a b c u v x = dot u v x a b c := by unfold dot; rw [Int.mul_comm a, Int.mul_comm b, Int.mul_comm c]
set_option maxRecDepth 100000 in
set_option maxHeartbeats 8000000 in
theorem frames_law (a0 a1 a2 a3 a4 a5 b0 b1 b2 b3 b4 b5 : Int) (ha00 : 0 ≤ a0) (ha01 : a0 < 65536) (ha10 : 0 ≤ a1) (ha11 : a1 < 65536) (ha20 : 0 ≤ a2) (ha21 : a2 < 65536) (ha30 : 0 ≤ a3) (ha31 : a3 < 65536) (ha40 : 0 ≤ a4) (ha41 : a4 < 65536) (ha50 : 0 ≤ a5) (ha51 : a5 < 65536) (hb00 : 0 ≤ b0) (hb01 : b0 < 65536) (hb10 : 0 ≤ b1) (hb11 : b1 < 65536) (hb20 : 0 ≤ b2) (hb21 : b2 < 65536) (hb30 : 0 ≤ b3) (hb31 : b3 < 65536) (hb40 : 0 ≤ b4) (hb41 : b4 < 65536) (hb50 : 0 ≤ b5) (hb51 : b5 < 65536) (w : World) (hS : Sines w) : Calls Tryd.prog 6 #[(.agg #[.int .u16 (a0), .int .u16 (a1), .int .u16 (a2), .int .u16 (a3), .int .u16 (a4), .int .u16 (a5)]), (.agg #[.int .u16 (b0), .int .u16 (b1), .int .u16 (b2), .int .u16 (b3), .int .u16 (b4), .int .u16 (b5)])] w fun e w' => e = .returned (.bool true) ∧ Below w.heap.size w w' := by
  rcases triad_facts a0 a1 a2 a3 a4 a5 b0 b1 b2 b3 b4 b5 ha00 ha01 ha10 ha11 ha20 ha21 ha30 ha31 ha40 ha41 ha50 ha51 hb00 hb01 hb10 hb11 hb20 hb21 hb30 hb31 hb40 hb41 hb50 hb51 with ⟨U0, U1, U2, Y0, Y1, Y2, Z0, Z1, Z2, T1, _, _, ⟨⟨U0_0, U0_1⟩, ⟨U1_0, U1_1⟩, ⟨U2_0, U2_1⟩, ⟨Y0_0, Y0_1⟩, ⟨Y1_0, Y1_1⟩, ⟨Y2_0, Y2_1⟩, ⟨Z0_0, Z0_1⟩, ⟨Z1_0, Z1_1⟩, ⟨Z2_0, Z2_1⟩⟩, ⟨nU0, nU1⟩, ⟨nY0, nY1⟩, ⟨nZ0, nZ1⟩, ⟨uz0, uz1⟩, ⟨uy0, uy1⟩, ⟨zy0, zy1⟩⟩ | ⟨T1, _, _⟩
  · have b00 : 67108860 ≤ rnd (dot U0 U1 U2 U0 U1 U2) 268435456 ∧ rnd (dot U0 U1 U2 U0 U1 U2) 268435456 ≤ 67108868 := ⟨rnd_ge _ _ _ (by omega) (by unfold dot; omega), rnd_le _ _ _ (by omega) (by unfold dot; omega)⟩
    have b11 : 67108860 ≤ rnd (dot Y0 Y1 Y2 Y0 Y1 Y2) 268435456 ∧ rnd (dot Y0 Y1 Y2 Y0 Y1 Y2) 268435456 ≤ 67108868 := ⟨rnd_ge _ _ _ (by omega) (by unfold dot; omega), rnd_le _ _ _ (by omega) (by unfold dot; omega)⟩
    have b22 : 67108860 ≤ rnd (dot Z0 Z1 Z2 Z0 Z1 Z2) 268435456 ∧ rnd (dot Z0 Z1 Z2 Z0 Z1 Z2) 268435456 ≤ 67108868 := ⟨rnd_ge _ _ _ (by omega) (by unfold dot; omega), rnd_le _ _ _ (by omega) (by unfold dot; omega)⟩
    have b02 := near_rnd (dot U0 U1 U2 Z0 Z1 Z2) 16 (by unfold dot; omega) (by unfold dot; omega)
    have b20 := b02
    rw [← dot_comm3] at b20
    have b01 := near_rnd (dot U0 U1 U2 Y0 Y1 Y2) 8 (by unfold dot; omega) (by unfold dot; omega)
    have b10 := b01
    rw [← dot_comm3] at b10
    have b21 := near_rnd (dot Z0 Z1 Z2 Y0 Y1 Y2) 8 (by unfold dot; omega) (by unfold dot; omega)
    have b12 := b21
    rw [← dot_comm3] at b12
    refine frames_walk a0 a1 a2 a3 a4 a5 b0 b1 b2 b3 b4 b5 (pick18 (hi U0) (lo U0) (hi U1) (lo U1) (hi U2) (lo U2) (hi Y0) (lo Y0) (hi Y1) (lo Y1) (hi Y2) (lo Y2) (hi Z0) (lo Z0) (hi Z1) (lo Z1) (hi Z2) (lo Z2)) (fun i j => hi ((pick9 (rnd (dot U0 U1 U2 U0 U1 U2) 268435456) (rnd (dot U0 U1 U2 Y0 Y1 Y2) 268435456) (rnd (dot U0 U1 U2 Z0 Z1 Z2) 268435456) (rnd (dot Y0 Y1 Y2 U0 U1 U2) 268435456) (rnd (dot Y0 Y1 Y2 Y0 Y1 Y2) 268435456) (rnd (dot Y0 Y1 Y2 Z0 Z1 Z2) 268435456) (rnd (dot Z0 Z1 Z2 U0 U1 U2) 268435456) (rnd (dot Z0 Z1 Z2 Y0 Y1 Y2) 268435456) (rnd (dot Z0 Z1 Z2 Z0 Z1 Z2) 268435456)) i j)) (fun i j => lo ((pick9 (rnd (dot U0 U1 U2 U0 U1 U2) 268435456) (rnd (dot U0 U1 U2 Y0 Y1 Y2) 268435456) (rnd (dot U0 U1 U2 Z0 Z1 Z2) 268435456) (rnd (dot Y0 Y1 Y2 U0 U1 U2) 268435456) (rnd (dot Y0 Y1 Y2 Y0 Y1 Y2) 268435456) (rnd (dot Y0 Y1 Y2 Z0 Z1 Z2) 268435456) (rnd (dot Z0 Z1 Z2 U0 U1 U2) 268435456) (rnd (dot Z0 Z1 Z2 Y0 Y1 Y2) 268435456) (rnd (dot Z0 Z1 Z2 Z0 Z1 Z2) 268435456)) i j)) (pick9 (rnd (dot U0 U1 U2 U0 U1 U2) 268435456) (rnd (dot U0 U1 U2 Y0 Y1 Y2) 268435456) (rnd (dot U0 U1 U2 Z0 Z1 Z2) 268435456) (rnd (dot Y0 Y1 Y2 U0 U1 U2) 268435456) (rnd (dot Y0 Y1 Y2 Y0 Y1 Y2) 268435456) (rnd (dot Y0 Y1 Y2 Z0 Z1 Z2) 268435456) (rnd (dot Z0 Z1 Z2 U0 U1 U2) 268435456) (rnd (dot Z0 Z1 Z2 Y0 Y1 Y2) 268435456) (rnd (dot Z0 Z1 Z2 Z0 Z1 Z2) 268435456)) T1 (nine (fun w => rdot_V U0 U1 U2 U0 U1 U2 U0_0 U0_1 U1_0 U1_1 U2_0 U2_1 U0_0 U0_1 U1_0 U1_1 U2_0 U2_1 (by omega) (by omega) w) (fun w => rdot_V U0 U1 U2 Y0 Y1 Y2 U0_0 U0_1 U1_0 U1_1 U2_0 U2_1 Y0_0 Y0_1 Y1_0 Y1_1 Y2_0 Y2_1 (by omega) (by omega) w) (fun w => rdot_V U0 U1 U2 Z0 Z1 Z2 U0_0 U0_1 U1_0 U1_1 U2_0 U2_1 Z0_0 Z0_1 Z1_0 Z1_1 Z2_0 Z2_1 (by omega) (by omega) w) (fun w => rdot_V Y0 Y1 Y2 U0 U1 U2 Y0_0 Y0_1 Y1_0 Y1_1 Y2_0 Y2_1 U0_0 U0_1 U1_0 U1_1 U2_0 U2_1 (by omega) (by omega) w) (fun w => rdot_V Y0 Y1 Y2 Y0 Y1 Y2 Y0_0 Y0_1 Y1_0 Y1_1 Y2_0 Y2_1 Y0_0 Y0_1 Y1_0 Y1_1 Y2_0 Y2_1 (by omega) (by omega) w) (fun w => rdot_V Y0 Y1 Y2 Z0 Z1 Z2 Y0_0 Y0_1 Y1_0 Y1_1 Y2_0 Y2_1 Z0_0 Z0_1 Z1_0 Z1_1 Z2_0 Z2_1 (by omega) (by omega) w) (fun w => rdot_V Z0 Z1 Z2 U0 U1 U2 Z0_0 Z0_1 Z1_0 Z1_1 Z2_0 Z2_1 U0_0 U0_1 U1_0 U1_1 U2_0 U2_1 (by omega) (by omega) w) (fun w => rdot_V Z0 Z1 Z2 Y0 Y1 Y2 Z0_0 Z0_1 Z1_0 Z1_1 Z2_0 Z2_1 Y0_0 Y0_1 Y1_0 Y1_1 Y2_0 Y2_1 (by omega) (by omega) w) (fun w => rdot_V Z0 Z1 Z2 Z0 Z1 Z2 Z0_0 Z0_1 Z1_0 Z1_1 Z2_0 Z2_1 Z0_0 Z0_1 Z1_0 Z1_1 Z2_0 Z2_1 (by omega) (by omega) w)) (nine (fun w => rvalue_V (rnd (dot U0 U1 U2 U0 U1 U2) 268435456) (by omega) (by omega) w) (fun w => rvalue_V (rnd (dot U0 U1 U2 Y0 Y1 Y2) 268435456) (by omega) (by omega) w) (fun w => rvalue_V (rnd (dot U0 U1 U2 Z0 Z1 Z2) 268435456) (by omega) (by omega) w) (fun w => rvalue_V (rnd (dot Y0 Y1 Y2 U0 U1 U2) 268435456) (by omega) (by omega) w) (fun w => rvalue_V (rnd (dot Y0 Y1 Y2 Y0 Y1 Y2) 268435456) (by omega) (by omega) w) (fun w => rvalue_V (rnd (dot Y0 Y1 Y2 Z0 Z1 Z2) 268435456) (by omega) (by omega) w) (fun w => rvalue_V (rnd (dot Z0 Z1 Z2 U0 U1 U2) 268435456) (by omega) (by omega) w) (fun w => rvalue_V (rnd (dot Z0 Z1 Z2 Y0 Y1 Y2) 268435456) (by omega) (by omega) w) (fun w => rvalue_V (rnd (dot Z0 Z1 Z2 Z0 Z1 Z2) 268435456) (by omega) (by omega) w)) (nine (show -268435455 ≤ (rnd (dot U0 U1 U2 U0 U1 U2) 268435456) ∧ (rnd (dot U0 U1 U2 U0 U1 U2) 268435456) ≤ 268435455 by omega) (show -268435455 ≤ (rnd (dot U0 U1 U2 Y0 Y1 Y2) 268435456) ∧ (rnd (dot U0 U1 U2 Y0 Y1 Y2) 268435456) ≤ 268435455 by omega) (show -268435455 ≤ (rnd (dot U0 U1 U2 Z0 Z1 Z2) 268435456) ∧ (rnd (dot U0 U1 U2 Z0 Z1 Z2) 268435456) ≤ 268435455 by omega) (show -268435455 ≤ (rnd (dot Y0 Y1 Y2 U0 U1 U2) 268435456) ∧ (rnd (dot Y0 Y1 Y2 U0 U1 U2) 268435456) ≤ 268435455 by omega) (show -268435455 ≤ (rnd (dot Y0 Y1 Y2 Y0 Y1 Y2) 268435456) ∧ (rnd (dot Y0 Y1 Y2 Y0 Y1 Y2) 268435456) ≤ 268435455 by omega) (show -268435455 ≤ (rnd (dot Y0 Y1 Y2 Z0 Z1 Z2) 268435456) ∧ (rnd (dot Y0 Y1 Y2 Z0 Z1 Z2) 268435456) ≤ 268435455 by omega) (show -268435455 ≤ (rnd (dot Z0 Z1 Z2 U0 U1 U2) 268435456) ∧ (rnd (dot Z0 Z1 Z2 U0 U1 U2) 268435456) ≤ 268435455 by omega) (show -268435455 ≤ (rnd (dot Z0 Z1 Z2 Y0 Y1 Y2) 268435456) ∧ (rnd (dot Z0 Z1 Z2 Y0 Y1 Y2) 268435456) ≤ 268435455 by omega) (show -268435455 ≤ (rnd (dot Z0 Z1 Z2 Z0 Z1 Z2) 268435456) ∧ (rnd (dot Z0 Z1 Z2 Z0 Z1 Z2) 268435456) ≤ 268435455 by omega)) (fun i h => ?_) (fun i j hi hj h1 h2 => ?_) (fun i j hi hj h1 h2 => ?_) w hS
    · rcases (show i = 0 ∨ i = 1 ∨ i = 2 by omega) with rfl | rfl | rfl
      · show mag ((rnd (dot U0 U1 U2 U0 U1 U2) 268435456) - 67108864) ≤ 4
        unfold mag; split <;> omega
      · show mag ((rnd (dot Y0 Y1 Y2 Y0 Y1 Y2) 268435456) - 67108864) ≤ 4
        unfold mag; split <;> omega
      · show mag ((rnd (dot Z0 Z1 Z2 Z0 Z1 Z2) 268435456) - 67108864) ≤ 4
        unfold mag; split <;> omega
    · rcases (show i = 0 ∧ j = 2 ∨ i = 2 ∧ j = 0 by omega) with ⟨rfl, rfl⟩ | ⟨rfl, rfl⟩
      · show mag (rnd (dot U0 U1 U2 Z0 Z1 Z2) 268435456) ≤ 16
        unfold mag; split <;> omega
      · show mag (rnd (dot Z0 Z1 Z2 U0 U1 U2) 268435456) ≤ 16
        unfold mag; split <;> omega
    · rcases (show i = 0 ∧ j = 1 ∨ i = 1 ∧ j = 0 ∨ i = 1 ∧ j = 2 ∨ i = 2 ∧ j = 1 by omega) with ⟨rfl, rfl⟩ | ⟨rfl, rfl⟩ | ⟨rfl, rfl⟩ | ⟨rfl, rfl⟩
      · show mag (rnd (dot U0 U1 U2 Y0 Y1 Y2) 268435456) ≤ 8
        unfold mag; split <;> omega
      · show mag (rnd (dot Y0 Y1 Y2 U0 U1 U2) 268435456) ≤ 8
        unfold mag; split <;> omega
      · show mag (rnd (dot Y0 Y1 Y2 Z0 Z1 Z2) 268435456) ≤ 8
        unfold mag; split <;> omega
      · show mag (rnd (dot Z0 Z1 Z2 Y0 Y1 Y2) 268435456) ≤ 8
        unfold mag; split <;> omega
  · exact frames_bad a0 a1 a2 a3 a4 a5 b0 b1 b2 b3 b4 b5 T1 w hS
end Go.Proofs.YtbbhppjamighdaaDoor
