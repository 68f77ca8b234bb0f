/- The walk of the law AlignSmall: for every input it returns true. -/
import Derived.Test.YtbbhppjamighdaaDoorAj
import Derived.Test.YtbbhppjamighdaaDoorAp
import Derived.Test.YtbbhppjamighdaaDoorPx
namespace Go.Proofs.YtbbhppjamighdaaDoor
set_option linter.unusedSimpArgs false
set_option linter.unusedVariables false
open Go.RowKit

theorem size34s (v : Int) (h0 : -9223372036854775807 ≤ v) (h1 : v ≤ 9223372036854775807) (w : World) :
    Calls Tryd.prog 23 #[.int .i64 v] w fun e w' => e = .returned (.int .i64 (mag v)) ∧ w = w' := by
  have hm : max v (-v) = mag v := by unfold mag; split <;> omega
  go_enter Tryd.func23, Tryd.ntmps23
  go_wp2
  go_ret
  exact ⟨rfl, rfl⟩
set_option maxRecDepth 100000 in
set_option maxHeartbeats 8000000 in
theorem small_of_0 (k a0 a1 va x x0 x1 t0 t1 t2 t3 t4 t5 t6 t7 t8 t9 t10 t11 t12 t13 t14 t15 t16 t17 g0 g1 g2 g3 g4 g5 n sz : Int) (k0 : 0 ≤ k) (k1 : k ≤ 255) (hk : k.tmod 3 = 0) (C1 : (∀ w, Calls Tryd.prog 22 #[(.agg #[.int .u16 (a0), .int .u16 (a1)])] w fun e w' => e = .returned (.int .i64 va) ∧ Below w.heap.size w w')) (va0 : -268435455 ≤ va) (va1 : va ≤ 268435455) (hx : va.tmod 4194305 = x) (C2 : (∀ w, Calls Tryd.prog 29 #[.int .i64 x] w fun e w' => e = .returned (.agg #[.int .u16 (x0), .int .u16 (x1)]) ∧ Below w.heap.size w w'))
    (T : ∀ w, Sines w → Calls Tryd.prog 18 #[.int .i64 0, (.agg #[.int .u16 (x0), .int .u16 (x1)])] w fun e w' => e = .returned (.tuple #[(.agg #[.int .u16 (t0), .int .u16 (t1), .int .u16 (t2), .int .u16 (t3), .int .u16 (t4), .int .u16 (t5), .int .u16 (t6), .int .u16 (t7), .int .u16 (t8), .int .u16 (t9), .int .u16 (t10), .int .u16 (t11), .int .u16 (t12), .int .u16 (t13), .int .u16 (t14), .int .u16 (t15), .int .u16 (t16), .int .u16 (t17)]), .int .i64 0]) ∧ Below w.heap.size w w') (A : (∀ w, Calls Tryd.prog 12 #[(.agg #[.int .u16 (t0), .int .u16 (t1), .int .u16 (t2), .int .u16 (t3), .int .u16 (t4), .int .u16 (t5), .int .u16 (t6), .int .u16 (t7), .int .u16 (t8), .int .u16 (t9), .int .u16 (t10), .int .u16 (t11), .int .u16 (t12), .int .u16 (t13), .int .u16 (t14), .int .u16 (t15), .int .u16 (t16), .int .u16 (t17)])] w fun e w' => e = .returned (.tuple #[(.agg #[.int .u16 (g0), .int .u16 (g1), .int .u16 (g2), .int .u16 (g3), .int .u16 (g4), .int .u16 (g5)]), .bool false]) ∧ Below w.heap.size w w')) (N : (∀ w, Calls Tryd.prog 30 #[(.agg #[.int .u16 (g0), .int .u16 (g1), .int .u16 (g2), .int .u16 (g3), .int .u16 (g4), .int .u16 (g5)])] w fun e w' => e = .returned (.agg #[.int .i64 n, .int .i64 0, .int .i64 0]) ∧ Below w.heap.size w w')) (b0 : -268435455 ≤ n) (b1 : n ≤ 268435455) (c0 : -4194304 ≤ x) (c1 : x ≤ 4194304) (S : ∀ w, Calls Tryd.prog 23 #[.int .i64 (n - x)] w fun e w' => e = .returned (.int .i64 sz) ∧ w = w') (hs : decide (sz ≤ 8192) = true) (w : World) (hS : Sines w) :
    Calls Tryd.prog 9 #[.int .u8 k, (.agg #[.int .u16 (a0), .int .u16 (a1)])] w fun e w' => e = .returned (.bool true) ∧ Below w.heap.size w w' := by
  go_enter Tryd.func9, Tryd.ntmps9
  go_wp2_with fail
  refine (lives34 _ (hS.on (bl_alloc (Below.refl _ _) _))).mono ?_
  rintro _ r0 ⟨rfl, hb0⟩
  have f0_3 : r0.rangeAt (w.heap.size) 0 [.int .u16 a0, .int .u16 a1] := range_on (w := _) (range_row (c := #[.int .u16 a0, .int .u16 a1]) (t := 25) (fr := (0, 0)) (by repeat (first | exact heap_new (by simp only [World.size_alloc]) | exact heap_new rfl | refine heap_old (by (try simp only [World.size_alloc]); omega) ?_))) hb0 (by (try simp only [World.size_alloc]); omega)
  have hs0 := hb0.size
  try simp only [World.size_alloc] at hs0
  have hw0 : Below w.heap.size w r0 := (by repeat' (first | (with_reducible exact Below.refl _ _) | (with_reducible refine bl_set ?_ _ ?_) | (with_reducible refine bl_alloc ?_ _) | (with_reducible refine bl_drew ?_) | (with_reducible refine bl_via (by with_reducible assumption) ?_) | (with_reducible assumption) | omega | (simp only []; omega) | (simp; omega)))
  clear hb0
  go_wp2_with (first | fail | (refine WL.h ?_; first | (refine wl_load (op := { dst := some 17, op := .load 25 (.tmp 3), type := _, pos := _, after := _, guard := _ }) rfl 25 (.tmp 3) rfl (w.heap.size) 0 rfl [.int .u16 a0, .int .u16 a1] _ f0_3 hu_dbl rfl hi_dbl ?_; simp only [Act.put, List.setIfInBounds_toArray, List.set_cons_zero, List.set_cons_succ])))
  refine (C1 _).mono ?_
  rintro _ r1 ⟨rfl, hb1⟩
  have hs1 := hb1.size
  have hw1 := bl_via hb1 hw0
  have f1_3 := range_on f0_3 hb1 (by omega)
  clear hb1 hw0 f0_3
  go_wp2_with (first | fail)
  refine (C2 _).mono ?_
  rintro _ r2 ⟨rfl, hb2⟩
  have hs2 := hb2.size
  have hw2 := bl_via hb2 hw1
  have f2_3 := range_on f1_3 hb2 (by omega)
  clear hb2 hw1 f1_3
  go_wp2_with (first | fail)
  refine (T _ (hS.on hw2)).mono ?_
  rintro _ r3 ⟨rfl, hb3⟩
  have hs3 := hb3.size
  have hw3 := bl_via hb3 hw2
  have f3_3 := range_on f2_3 hb3 (by omega)
  clear hb3 hw2 f2_3
  go_wp2_with (first | fail | (refine WL.h ?_; first | (refine wl_store (op := { dst := none, op := .store 29 (.tmp 7) (.tmp 25), type := _, pos := _, after := _, guard := none }) rfl 29 (.tmp 7) (.tmp 25) rfl r3.heap.size 0 _ rfl rfl (there_new (c := #[.int .u16 0, .int .u16 0, .int .u16 0, .int .u16 0, .int .u16 0, .int .u16 0, .int .u16 0, .int .u16 0, .int .u16 0, .int .u16 0, .int .u16 0, .int .u16 0, .int .u16 0, .int .u16 0, .int .u16 0, .int .u16 0, .int .u16 0, .int .u16 0]) (t := 29) (by simp)) hi_mat (by simp [Value.oneCell']) ?_; refine wpList_gen (fun W => Below w.heap.size w W ∧ W.heap.size = r3.heap.size + 1 ∧ W.rangeAt (w.heap.size) 0 [.int .u16 a0, .int .u16 a1] ∧ W.rangeAt r3.heap.size 0 [.int .u16 t0, .int .u16 t1, .int .u16 t2, .int .u16 t3, .int .u16 t4, .int .u16 t5, .int .u16 t6, .int .u16 t7, .int .u16 t8, .int .u16 t9, .int .u16 t10, .int .u16 t11, .int .u16 t12, .int .u16 t13, .int .u16 t14, .int .u16 t15, .int .u16 t16, .int .u16 t17]) ⟨bl_cells _ _ _ _ (bl_alloc hw3 _) (by omega), size_store, range_store f3_3 (by omega), range_here (by simp)⟩ ?_; clear f3_3; rintro s3 ⟨hws3, hss3, fs3_3, fs3_7⟩; simp only [Act.put, List.setIfInBounds_toArray, List.set_cons_zero, List.set_cons_succ]) | (refine wl_load (op := { dst := some 28, op := .load 29 (.tmp 7), type := _, pos := _, after := _, guard := _ }) rfl 29 (.tmp 7) rfl (r3.heap.size) 0 rfl [.int .u16 t0, .int .u16 t1, .int .u16 t2, .int .u16 t3, .int .u16 t4, .int .u16 t5, .int .u16 t6, .int .u16 t7, .int .u16 t8, .int .u16 t9, .int .u16 t10, .int .u16 t11, .int .u16 t12, .int .u16 t13, .int .u16 t14, .int .u16 t15, .int .u16 t16, .int .u16 t17] _ fs3_7 hu_mat rfl hi_mat ?_; simp only [Act.put, List.setIfInBounds_toArray, List.set_cons_zero, List.set_cons_succ])))
  refine (A _).mono ?_
  rintro _ r4 ⟨rfl, hb4⟩
  have hs4 := hb4.size
  have hw4 := bl_via hb4 hws3
  have f4_3 := range_on fs3_3 hb4 (by omega)
  have f4_7 := range_on fs3_7 hb4 (by omega)
  clear hb4 hws3 fs3_3 fs3_7
  go_wp2_with (first | fail | (refine WL.h ?_; first | (refine wl_store (op := { dst := none, op := .store 27 (.tmp 9) (.tmp 30), type := _, pos := _, after := _, guard := none }) rfl 27 (.tmp 9) (.tmp 30) rfl r4.heap.size 0 _ rfl rfl (there_new (c := #[.int .u16 0, .int .u16 0, .int .u16 0, .int .u16 0, .int .u16 0, .int .u16 0]) (t := 27) (by simp)) hi_vec (by simp [Value.oneCell']) ?_; refine wpList_gen (fun W => Below w.heap.size w W ∧ W.heap.size = r4.heap.size + 1 ∧ W.rangeAt (w.heap.size) 0 [.int .u16 a0, .int .u16 a1] ∧ W.rangeAt (r3.heap.size) 0 [.int .u16 t0, .int .u16 t1, .int .u16 t2, .int .u16 t3, .int .u16 t4, .int .u16 t5, .int .u16 t6, .int .u16 t7, .int .u16 t8, .int .u16 t9, .int .u16 t10, .int .u16 t11, .int .u16 t12, .int .u16 t13, .int .u16 t14, .int .u16 t15, .int .u16 t16, .int .u16 t17] ∧ W.rangeAt r4.heap.size 0 [.int .u16 g0, .int .u16 g1, .int .u16 g2, .int .u16 g3, .int .u16 g4, .int .u16 g5]) ⟨bl_cells _ _ _ _ (bl_alloc hw4 _) (by omega), size_store, range_store f4_3 (by omega), range_store f4_7 (by omega), range_here (by simp)⟩ ?_; clear f4_3 f4_7; rintro s4 ⟨hws4, hss4, fs4_3, fs4_7, fs4_9⟩; simp only [Act.put, List.setIfInBounds_toArray, List.set_cons_zero, List.set_cons_succ]) | (refine wl_load (op := { dst := some 32, op := .load 27 (.tmp 9), type := _, pos := _, after := _, guard := _ }) rfl 27 (.tmp 9) rfl (r4.heap.size) 0 rfl [.int .u16 g0, .int .u16 g1, .int .u16 g2, .int .u16 g3, .int .u16 g4, .int .u16 g5] _ fs4_9 hu_vec rfl hi_vec ?_; simp only [Act.put, List.setIfInBounds_toArray, List.set_cons_zero, List.set_cons_succ])))
  refine (N _).mono ?_
  rintro _ r5 ⟨rfl, hb5⟩
  have hs5 := hb5.size
  have hw5 := bl_via hb5 hws4
  have f5_3 := range_on fs4_3 hb5 (by omega)
  have f5_7 := range_on fs4_7 hb5 (by omega)
  have f5_9 := range_on fs4_9 hb5 (by omega)
  clear hb5 hws4 fs4_3 fs4_7 fs4_9
  go_wp2_with fail
  refine (S _).mono ?_
  rintro _ _ ⟨rfl, rfl⟩
  go_wp2
  go_ret
  exact ⟨rfl, (by repeat' (first | (with_reducible exact Below.refl _ _) | (with_reducible refine bl_set ?_ _ ?_) | (with_reducible refine bl_alloc ?_ _) | (with_reducible refine bl_drew ?_) | (with_reducible refine bl_via (by with_reducible assumption) ?_) | (with_reducible assumption) | omega | (simp only []; omega) | (simp; omega)))⟩
set_option maxRecDepth 100000 in
set_option maxHeartbeats 8000000 in
theorem small_of_1 (k a0 a1 va x x0 x1 t0 t1 t2 t3 t4 t5 t6 t7 t8 t9 t10 t11 t12 t13 t14 t15 t16 t17 g0 g1 g2 g3 g4 g5 n sz : Int) (k0 : 0 ≤ k) (k1 : k ≤ 255) (hk : k.tmod 3 = 1) (C1 : (∀ w, Calls Tryd.prog 22 #[(.agg #[.int .u16 (a0), .int .u16 (a1)])] w fun e w' => e = .returned (.int .i64 va) ∧ Below w.heap.size w w')) (va0 : -268435455 ≤ va) (va1 : va ≤ 268435455) (hx : va.tmod 4194305 = x) (C2 : (∀ w, Calls Tryd.prog 29 #[.int .i64 x] w fun e w' => e = .returned (.agg #[.int .u16 (x0), .int .u16 (x1)]) ∧ Below w.heap.size w w'))
    (T : ∀ w, Sines w → Calls Tryd.prog 18 #[.int .i64 1, (.agg #[.int .u16 (x0), .int .u16 (x1)])] w fun e w' => e = .returned (.tuple #[(.agg #[.int .u16 (t0), .int .u16 (t1), .int .u16 (t2), .int .u16 (t3), .int .u16 (t4), .int .u16 (t5), .int .u16 (t6), .int .u16 (t7), .int .u16 (t8), .int .u16 (t9), .int .u16 (t10), .int .u16 (t11), .int .u16 (t12), .int .u16 (t13), .int .u16 (t14), .int .u16 (t15), .int .u16 (t16), .int .u16 (t17)]), .int .i64 0]) ∧ Below w.heap.size w w') (A : (∀ w, Calls Tryd.prog 12 #[(.agg #[.int .u16 (t0), .int .u16 (t1), .int .u16 (t2), .int .u16 (t3), .int .u16 (t4), .int .u16 (t5), .int .u16 (t6), .int .u16 (t7), .int .u16 (t8), .int .u16 (t9), .int .u16 (t10), .int .u16 (t11), .int .u16 (t12), .int .u16 (t13), .int .u16 (t14), .int .u16 (t15), .int .u16 (t16), .int .u16 (t17)])] w fun e w' => e = .returned (.tuple #[(.agg #[.int .u16 (g0), .int .u16 (g1), .int .u16 (g2), .int .u16 (g3), .int .u16 (g4), .int .u16 (g5)]), .bool false]) ∧ Below w.heap.size w w')) (N : (∀ w, Calls Tryd.prog 30 #[(.agg #[.int .u16 (g0), .int .u16 (g1), .int .u16 (g2), .int .u16 (g3), .int .u16 (g4), .int .u16 (g5)])] w fun e w' => e = .returned (.agg #[.int .i64 0, .int .i64 n, .int .i64 0]) ∧ Below w.heap.size w w')) (b0 : -268435455 ≤ n) (b1 : n ≤ 268435455) (c0 : -4194304 ≤ x) (c1 : x ≤ 4194304) (S : ∀ w, Calls Tryd.prog 23 #[.int .i64 (n - x)] w fun e w' => e = .returned (.int .i64 sz) ∧ w = w') (hs : decide (sz ≤ 8192) = true) (w : World) (hS : Sines w) :
    Calls Tryd.prog 9 #[.int .u8 k, (.agg #[.int .u16 (a0), .int .u16 (a1)])] w fun e w' => e = .returned (.bool true) ∧ Below w.heap.size w w' := by
  go_enter Tryd.func9, Tryd.ntmps9
  go_wp2_with fail
  refine (lives34 _ (hS.on (bl_alloc (Below.refl _ _) _))).mono ?_
  rintro _ r0 ⟨rfl, hb0⟩
  have f0_3 : r0.rangeAt (w.heap.size) 0 [.int .u16 a0, .int .u16 a1] := range_on (w := _) (range_row (c := #[.int .u16 a0, .int .u16 a1]) (t := 25) (fr := (0, 0)) (by repeat (first | exact heap_new (by simp only [World.size_alloc]) | exact heap_new rfl | refine heap_old (by (try simp only [World.size_alloc]); omega) ?_))) hb0 (by (try simp only [World.size_alloc]); omega)
  have hs0 := hb0.size
  try simp only [World.size_alloc] at hs0
  have hw0 : Below w.heap.size w r0 := (by repeat' (first | (with_reducible exact Below.refl _ _) | (with_reducible refine bl_set ?_ _ ?_) | (with_reducible refine bl_alloc ?_ _) | (with_reducible refine bl_drew ?_) | (with_reducible refine bl_via (by with_reducible assumption) ?_) | (with_reducible assumption) | omega | (simp only []; omega) | (simp; omega)))
  clear hb0
  go_wp2_with (first | fail | (refine WL.h ?_; first | (refine wl_load (op := { dst := some 17, op := .load 25 (.tmp 3), type := _, pos := _, after := _, guard := _ }) rfl 25 (.tmp 3) rfl (w.heap.size) 0 rfl [.int .u16 a0, .int .u16 a1] _ f0_3 hu_dbl rfl hi_dbl ?_; simp only [Act.put, List.setIfInBounds_toArray, List.set_cons_zero, List.set_cons_succ])))
  refine (C1 _).mono ?_
  rintro _ r1 ⟨rfl, hb1⟩
  have hs1 := hb1.size
  have hw1 := bl_via hb1 hw0
  have f1_3 := range_on f0_3 hb1 (by omega)
  clear hb1 hw0 f0_3
  go_wp2_with (first | fail)
  refine (C2 _).mono ?_
  rintro _ r2 ⟨rfl, hb2⟩
  have hs2 := hb2.size
  have hw2 := bl_via hb2 hw1
  have f2_3 := range_on f1_3 hb2 (by omega)
  clear hb2 hw1 f1_3
  go_wp2_with (first | fail)
  refine (T _ (hS.on hw2)).mono ?_
  rintro _ r3 ⟨rfl, hb3⟩
  have hs3 := hb3.size
  have hw3 := bl_via hb3 hw2
  have f3_3 := range_on f2_3 hb3 (by omega)
  clear hb3 hw2 f2_3
  go_wp2_with (first | fail | (refine WL.h ?_; first | (refine wl_store (op := { dst := none, op := .store 29 (.tmp 7) (.tmp 25), type := _, pos := _, after := _, guard := none }) rfl 29 (.tmp 7) (.tmp 25) rfl r3.heap.size 0 _ rfl rfl (there_new (c := #[.int .u16 0, .int .u16 0, .int .u16 0, .int .u16 0, .int .u16 0, .int .u16 0, .int .u16 0, .int .u16 0, .int .u16 0, .int .u16 0, .int .u16 0, .int .u16 0, .int .u16 0, .int .u16 0, .int .u16 0, .int .u16 0, .int .u16 0, .int .u16 0]) (t := 29) (by simp)) hi_mat (by simp [Value.oneCell']) ?_; refine wpList_gen (fun W => Below w.heap.size w W ∧ W.heap.size = r3.heap.size + 1 ∧ W.rangeAt (w.heap.size) 0 [.int .u16 a0, .int .u16 a1] ∧ W.rangeAt r3.heap.size 0 [.int .u16 t0, .int .u16 t1, .int .u16 t2, .int .u16 t3, .int .u16 t4, .int .u16 t5, .int .u16 t6, .int .u16 t7, .int .u16 t8, .int .u16 t9, .int .u16 t10, .int .u16 t11, .int .u16 t12, .int .u16 t13, .int .u16 t14, .int .u16 t15, .int .u16 t16, .int .u16 t17]) ⟨bl_cells _ _ _ _ (bl_alloc hw3 _) (by omega), size_store, range_store f3_3 (by omega), range_here (by simp)⟩ ?_; clear f3_3; rintro s3 ⟨hws3, hss3, fs3_3, fs3_7⟩; simp only [Act.put, List.setIfInBounds_toArray, List.set_cons_zero, List.set_cons_succ]) | (refine wl_load (op := { dst := some 28, op := .load 29 (.tmp 7), type := _, pos := _, after := _, guard := _ }) rfl 29 (.tmp 7) rfl (r3.heap.size) 0 rfl [.int .u16 t0, .int .u16 t1, .int .u16 t2, .int .u16 t3, .int .u16 t4, .int .u16 t5, .int .u16 t6, .int .u16 t7, .int .u16 t8, .int .u16 t9, .int .u16 t10, .int .u16 t11, .int .u16 t12, .int .u16 t13, .int .u16 t14, .int .u16 t15, .int .u16 t16, .int .u16 t17] _ fs3_7 hu_mat rfl hi_mat ?_; simp only [Act.put, List.setIfInBounds_toArray, List.set_cons_zero, List.set_cons_succ])))
  refine (A _).mono ?_
  rintro _ r4 ⟨rfl, hb4⟩
  have hs4 := hb4.size
  have hw4 := bl_via hb4 hws3
  have f4_3 := range_on fs3_3 hb4 (by omega)
  have f4_7 := range_on fs3_7 hb4 (by omega)
  clear hb4 hws3 fs3_3 fs3_7
  go_wp2_with (first | fail | (refine WL.h ?_; first | (refine wl_store (op := { dst := none, op := .store 27 (.tmp 9) (.tmp 30), type := _, pos := _, after := _, guard := none }) rfl 27 (.tmp 9) (.tmp 30) rfl r4.heap.size 0 _ rfl rfl (there_new (c := #[.int .u16 0, .int .u16 0, .int .u16 0, .int .u16 0, .int .u16 0, .int .u16 0]) (t := 27) (by simp)) hi_vec (by simp [Value.oneCell']) ?_; refine wpList_gen (fun W => Below w.heap.size w W ∧ W.heap.size = r4.heap.size + 1 ∧ W.rangeAt (w.heap.size) 0 [.int .u16 a0, .int .u16 a1] ∧ W.rangeAt (r3.heap.size) 0 [.int .u16 t0, .int .u16 t1, .int .u16 t2, .int .u16 t3, .int .u16 t4, .int .u16 t5, .int .u16 t6, .int .u16 t7, .int .u16 t8, .int .u16 t9, .int .u16 t10, .int .u16 t11, .int .u16 t12, .int .u16 t13, .int .u16 t14, .int .u16 t15, .int .u16 t16, .int .u16 t17] ∧ W.rangeAt r4.heap.size 0 [.int .u16 g0, .int .u16 g1, .int .u16 g2, .int .u16 g3, .int .u16 g4, .int .u16 g5]) ⟨bl_cells _ _ _ _ (bl_alloc hw4 _) (by omega), size_store, range_store f4_3 (by omega), range_store f4_7 (by omega), range_here (by simp)⟩ ?_; clear f4_3 f4_7; rintro s4 ⟨hws4, hss4, fs4_3, fs4_7, fs4_9⟩; simp only [Act.put, List.setIfInBounds_toArray, List.set_cons_zero, List.set_cons_succ]) | (refine wl_load (op := { dst := some 32, op := .load 27 (.tmp 9), type := _, pos := _, after := _, guard := _ }) rfl 27 (.tmp 9) rfl (r4.heap.size) 0 rfl [.int .u16 g0, .int .u16 g1, .int .u16 g2, .int .u16 g3, .int .u16 g4, .int .u16 g5] _ fs4_9 hu_vec rfl hi_vec ?_; simp only [Act.put, List.setIfInBounds_toArray, List.set_cons_zero, List.set_cons_succ])))
  refine (N _).mono ?_
  rintro _ r5 ⟨rfl, hb5⟩
  have hs5 := hb5.size
  have hw5 := bl_via hb5 hws4
  have f5_3 := range_on fs4_3 hb5 (by omega)
  have f5_7 := range_on fs4_7 hb5 (by omega)
  have f5_9 := range_on fs4_9 hb5 (by omega)
  clear hb5 hws4 fs4_3 fs4_7 fs4_9
  go_wp2_with fail
  refine (S _).mono ?_
  rintro _ _ ⟨rfl, rfl⟩
  go_wp2
  go_ret
  exact ⟨rfl, (by repeat' (first | (with_reducible exact Below.refl _ _) | (with_reducible refine bl_set ?_ _ ?_) | (with_reducible refine bl_alloc ?_ _) | (with_reducible refine bl_drew ?_) | (with_reducible refine bl_via (by with_reducible assumption) ?_) | (with_reducible assumption) | omega | (simp only []; omega) | (simp; omega)))⟩
set_option maxRecDepth 100000 in
set_option maxHeartbeats 8000000 in
theorem small_of_2 (k a0 a1 va x x0 x1 t0 t1 t2 t3 t4 t5 t6 t7 t8 t9 t10 t11 t12 t13 t14 t15 t16 t17 g0 g1 g2 g3 g4 g5 n sz : Int) (k0 : 0 ≤ k) (k1 : k ≤ 255) (hk : k.tmod 3 = 2) (C1 : (∀ w, Calls Tryd.prog 22 #[(.agg #[.int .u16 (a0), .int .u16 (a1)])] w fun e w' => e = .returned (.int .i64 va) ∧ Below w.heap.size w w')) (va0 : -268435455 ≤ va) (va1 : va ≤ 268435455) (hx : va.tmod 4194305 = x) (C2 : (∀ w, Calls Tryd.prog 29 #[.int .i64 x] w fun e w' => e = .returned (.agg #[.int .u16 (x0), .int .u16 (x1)]) ∧ Below w.heap.size w w'))
    (T : ∀ w, Sines w → Calls Tryd.prog 18 #[.int .i64 2, (.agg #[.int .u16 (x0), .int .u16 (x1)])] w fun e w' => e = .returned (.tuple #[(.agg #[.int .u16 (t0), .int .u16 (t1), .int .u16 (t2), .int .u16 (t3), .int .u16 (t4), .int .u16 (t5), .int .u16 (t6), .int .u16 (t7), .int .u16 (t8), .int .u16 (t9), .int .u16 (t10), .int .u16 (t11), .int .u16 (t12), .int .u16 (t13), .int .u16 (t14), .int .u16 (t15), .int .u16 (t16), .int .u16 (t17)]), .int .i64 0]) ∧ Below w.heap.size w w') (A : (∀ w, Calls Tryd.prog 12 #[(.agg #[.int .u16 (t0), .int .u16 (t1), .int .u16 (t2), .int .u16 (t3), .int .u16 (t4), .int .u16 (t5), .int .u16 (t6), .int .u16 (t7), .int .u16 (t8), .int .u16 (t9), .int .u16 (t10), .int .u16 (t11), .int .u16 (t12), .int .u16 (t13), .int .u16 (t14), .int .u16 (t15), .int .u16 (t16), .int .u16 (t17)])] w fun e w' => e = .returned (.tuple #[(.agg #[.int .u16 (g0), .int .u16 (g1), .int .u16 (g2), .int .u16 (g3), .int .u16 (g4), .int .u16 (g5)]), .bool false]) ∧ Below w.heap.size w w')) (N : (∀ w, Calls Tryd.prog 30 #[(.agg #[.int .u16 (g0), .int .u16 (g1), .int .u16 (g2), .int .u16 (g3), .int .u16 (g4), .int .u16 (g5)])] w fun e w' => e = .returned (.agg #[.int .i64 0, .int .i64 0, .int .i64 n]) ∧ Below w.heap.size w w')) (b0 : -268435455 ≤ n) (b1 : n ≤ 268435455) (c0 : -4194304 ≤ x) (c1 : x ≤ 4194304) (S : ∀ w, Calls Tryd.prog 23 #[.int .i64 (n - x)] w fun e w' => e = .returned (.int .i64 sz) ∧ w = w') (hs : decide (sz ≤ 8192) = true) (w : World) (hS : Sines w) :
    Calls Tryd.prog 9 #[.int .u8 k, (.agg #[.int .u16 (a0), .int .u16 (a1)])] w fun e w' => e = .returned (.bool true) ∧ Below w.heap.size w w' := by
  go_enter Tryd.func9, Tryd.ntmps9
  go_wp2_with fail
  refine (lives34 _ (hS.on (bl_alloc (Below.refl _ _) _))).mono ?_
  rintro _ r0 ⟨rfl, hb0⟩
  have f0_3 : r0.rangeAt (w.heap.size) 0 [.int .u16 a0, .int .u16 a1] := range_on (w := _) (range_row (c := #[.int .u16 a0, .int .u16 a1]) (t := 25) (fr := (0, 0)) (by repeat (first | exact heap_new (by simp only [World.size_alloc]) | exact heap_new rfl | refine heap_old (by (try simp only [World.size_alloc]); omega) ?_))) hb0 (by (try simp only [World.size_alloc]); omega)
  have hs0 := hb0.size
  try simp only [World.size_alloc] at hs0
  have hw0 : Below w.heap.size w r0 := (by repeat' (first | (with_reducible exact Below.refl _ _) | (with_reducible refine bl_set ?_ _ ?_) | (with_reducible refine bl_alloc ?_ _) | (with_reducible refine bl_drew ?_) | (with_reducible refine bl_via (by with_reducible assumption) ?_) | (with_reducible assumption) | omega | (simp only []; omega) | (simp; omega)))
  clear hb0
  go_wp2_with (first | fail | (refine WL.h ?_; first | (refine wl_load (op := { dst := some 17, op := .load 25 (.tmp 3), type := _, pos := _, after := _, guard := _ }) rfl 25 (.tmp 3) rfl (w.heap.size) 0 rfl [.int .u16 a0, .int .u16 a1] _ f0_3 hu_dbl rfl hi_dbl ?_; simp only [Act.put, List.setIfInBounds_toArray, List.set_cons_zero, List.set_cons_succ])))
  refine (C1 _).mono ?_
  rintro _ r1 ⟨rfl, hb1⟩
  have hs1 := hb1.size
  have hw1 := bl_via hb1 hw0
  have f1_3 := range_on f0_3 hb1 (by omega)
  clear hb1 hw0 f0_3
  go_wp2_with (first | fail)
  refine (C2 _).mono ?_
  rintro _ r2 ⟨rfl, hb2⟩
  have hs2 := hb2.size
  have hw2 := bl_via hb2 hw1
  have f2_3 := range_on f1_3 hb2 (by omega)
  clear hb2 hw1 f1_3
  go_wp2_with (first | fail)
  refine (T _ (hS.on hw2)).mono ?_
  rintro _ r3 ⟨rfl, hb3⟩
  have hs3 := hb3.size
  have hw3 := bl_via hb3 hw2
  have f3_3 := range_on f2_3 hb3 (by omega)
  clear hb3 hw2 f2_3
  go_wp2_with (first | fail | (refine WL.h ?_; first | (refine wl_store (op := { dst := none, op := .store 29 (.tmp 7) (.tmp 25), type := _, pos := _, after := _, guard := none }) rfl 29 (.tmp 7) (.tmp 25) rfl r3.heap.size 0 _ rfl rfl (there_new (c := #[.int .u16 0, .int .u16 0, .int .u16 0, .int .u16 0, .int .u16 0, .int .u16 0, .int .u16 0, .int .u16 0, .int .u16 0, .int .u16 0, .int .u16 0, .int .u16 0, .int .u16 0, .int .u16 0, .int .u16 0, .int .u16 0, .int .u16 0, .int .u16 0]) (t := 29) (by simp)) hi_mat (by simp [Value.oneCell']) ?_; refine wpList_gen (fun W => Below w.heap.size w W ∧ W.heap.size = r3.heap.size + 1 ∧ W.rangeAt (w.heap.size) 0 [.int .u16 a0, .int .u16 a1] ∧ W.rangeAt r3.heap.size 0 [.int .u16 t0, .int .u16 t1, .int .u16 t2, .int .u16 t3, .int .u16 t4, .int .u16 t5, .int .u16 t6, .int .u16 t7, .int .u16 t8, .int .u16 t9, .int .u16 t10, .int .u16 t11, .int .u16 t12, .int .u16 t13, .int .u16 t14, .int .u16 t15, .int .u16 t16, .int .u16 t17]) ⟨bl_cells _ _ _ _ (bl_alloc hw3 _) (by omega), size_store, range_store f3_3 (by omega), range_here (by simp)⟩ ?_; clear f3_3; rintro s3 ⟨hws3, hss3, fs3_3, fs3_7⟩; simp only [Act.put, List.setIfInBounds_toArray, List.set_cons_zero, List.set_cons_succ]) | (refine wl_load (op := { dst := some 28, op := .load 29 (.tmp 7), type := _, pos := _, after := _, guard := _ }) rfl 29 (.tmp 7) rfl (r3.heap.size) 0 rfl [.int .u16 t0, .int .u16 t1, .int .u16 t2, .int .u16 t3, .int .u16 t4, .int .u16 t5, .int .u16 t6, .int .u16 t7, .int .u16 t8, .int .u16 t9, .int .u16 t10, .int .u16 t11, .int .u16 t12, .int .u16 t13, .int .u16 t14, .int .u16 t15, .int .u16 t16, .int .u16 t17] _ fs3_7 hu_mat rfl hi_mat ?_; simp only [Act.put, List.setIfInBounds_toArray, List.set_cons_zero, List.set_cons_succ])))
  refine (A _).mono ?_
  rintro _ r4 ⟨rfl, hb4⟩
  have hs4 := hb4.size
  have hw4 := bl_via hb4 hws3
  have f4_3 := range_on fs3_3 hb4 (by omega)
  have f4_7 := range_on fs3_7 hb4 (by omega)
  clear hb4 hws3 fs3_3 fs3_7
  go_wp2_with (first | fail | (refine WL.h ?_; first | (refine wl_store (op := { dst := none, op := .store 27 (.tmp 9) (.tmp 30), type := _, pos := _, after := _, guard := none }) rfl 27 (.tmp 9) (.tmp 30) rfl r4.heap.size 0 _ rfl rfl (there_new (c := #[.int .u16 0, .int .u16 0, .int .u16 0, .int .u16 0, .int .u16 0, .int .u16 0]) (t := 27) (by simp)) hi_vec (by simp [Value.oneCell']) ?_; refine wpList_gen (fun W => Below w.heap.size w W ∧ W.heap.size = r4.heap.size + 1 ∧ W.rangeAt (w.heap.size) 0 [.int .u16 a0, .int .u16 a1] ∧ W.rangeAt (r3.heap.size) 0 [.int .u16 t0, .int .u16 t1, .int .u16 t2, .int .u16 t3, .int .u16 t4, .int .u16 t5, .int .u16 t6, .int .u16 t7, .int .u16 t8, .int .u16 t9, .int .u16 t10, .int .u16 t11, .int .u16 t12, .int .u16 t13, .int .u16 t14, .int .u16 t15, .int .u16 t16, .int .u16 t17] ∧ W.rangeAt r4.heap.size 0 [.int .u16 g0, .int .u16 g1, .int .u16 g2, .int .u16 g3, .int .u16 g4, .int .u16 g5]) ⟨bl_cells _ _ _ _ (bl_alloc hw4 _) (by omega), size_store, range_store f4_3 (by omega), range_store f4_7 (by omega), range_here (by simp)⟩ ?_; clear f4_3 f4_7; rintro s4 ⟨hws4, hss4, fs4_3, fs4_7, fs4_9⟩; simp only [Act.put, List.setIfInBounds_toArray, List.set_cons_zero, List.set_cons_succ]) | (refine wl_load (op := { dst := some 32, op := .load 27 (.tmp 9), type := _, pos := _, after := _, guard := _ }) rfl 27 (.tmp 9) rfl (r4.heap.size) 0 rfl [.int .u16 g0, .int .u16 g1, .int .u16 g2, .int .u16 g3, .int .u16 g4, .int .u16 g5] _ fs4_9 hu_vec rfl hi_vec ?_; simp only [Act.put, List.setIfInBounds_toArray, List.set_cons_zero, List.set_cons_succ])))
  refine (N _).mono ?_
  rintro _ r5 ⟨rfl, hb5⟩
  have hs5 := hb5.size
  have hw5 := bl_via hb5 hws4
  have f5_3 := range_on fs4_3 hb5 (by omega)
  have f5_7 := range_on fs4_7 hb5 (by omega)
  have f5_9 := range_on fs4_9 hb5 (by omega)
  clear hb5 hws4 fs4_3 fs4_7 fs4_9
  go_wp2_with fail
  refine (S _).mono ?_
  rintro _ _ ⟨rfl, rfl⟩
  go_wp2
  go_ret
  exact ⟨rfl, (by repeat' (first | (with_reducible exact Below.refl _ _) | (with_reducible refine bl_set ?_ _ ?_) | (with_reducible refine bl_alloc ?_ _) | (with_reducible refine bl_drew ?_) | (with_reducible refine bl_via (by with_reducible assumption) ?_) | (with_reducible assumption) | omega | (simp only []; omega) | (simp; omega)))⟩
theorem ang_zero : ang 0 0 = 0 := by decide +kernel
theorem ano_zero : ano 0 0 = false := by decide +kernel
theorem tmod_bd (v : Int) : -4194304 ≤ v.tmod 4194305 ∧ v.tmod 4194305 ≤ 4194304 := by
  rcases Int.le_total 0 v with h | h
  · rw [Int.tmod_eq_emod_of_nonneg h]; omega
  · have e : v.tmod 4194305 = -((-v).tmod 4194305) := by rw [Int.neg_tmod, Int.neg_neg]
    rw [e, Int.tmod_eq_emod_of_nonneg (by omega)]; omega
/-- The angle that a small turn comes to. -/
theorem ang_small (x : Int) (x0 : -4194304 ≤ x) (x1 : x ≤ 4194304) :
    ang (sinv x) (-sinv x) = mulv (sinv x + sinv x) 42722830 ∧ ano (sinv x) (-sinv x) = false ∧ mag (ang (sinv x) (-sinv x) - x) ≤ 8192 := by
  obtain ⟨⟨s0, s1⟩, b0, b1⟩ := small_turn x x0 x1
  have e : ang (sinv x) (-sinv x) = mulv (sinv x + sinv x) 42722830 := by
    unfold ang
    rw [show sinv x - -sinv x = sinv x + sinv x by omega, sat_in _ _ (by omega) (by omega)]
  refine ⟨e, by unfold ano; exact outb_in _ _ (by omega) (by omega), ?_⟩
  rw [e]
  generalize mulv (sinv x + sinv x) 42722830 = z at *
  unfold mag; split <;> omega
set_option maxRecDepth 100000 in
set_option maxHeartbeats 8000000 in
theorem small_law (k a0 a1 : Int) (ha00 : 0 ≤ a0) (ha01 : a0 < 65536) (ha10 : 0 ≤ a1) (ha11 : a1 < 65536) (k0 : 0 ≤ k) (k1 : k ≤ 255) (w : World) (hS : Sines w) : Calls Tryd.prog 9 #[.int .u8 k, (.agg #[.int .u16 (a0), .int .u16 (a1)])] w fun e w' => e = .returned (.bool true) ∧ Below w.heap.size w w' := by
  obtain ⟨x0, x1⟩ := tmod_bd (val a0 a1)
  generalize hx : (val a0 a1).tmod 4194305 = x at x0 x1
  obtain ⟨e1, e2, e3⟩ := ang_small x x0 x1
  obtain ⟨s0, s1⟩ := sinv_bd x
  obtain ⟨c0, c1⟩ := sinv_bd (x + 67108864)
  have qx := hi_lo x (by omega) (by omega)
  have qs := hi_lo (sinv x) s0 s1
  have qc := hi_lo (sinv (x + 67108864)) c0 c1
  have qn := hi_lo (-sinv x) (by omega) (by omega)
  have vx := val_of x (by omega) (by omega)
  have vs := val_of (sinv x) s0 s1
  have vc := val_of (sinv (x + 67108864)) c0 c1
  have vn := val_of (-sinv x) (by omega) (by omega)
  have v0 : val 0 0 = 0 := by decide +kernel
  have a0' : -268435455 ≤ ang (sinv x) (-sinv x) ∧ ang (sinv x) (-sinv x) ≤ 268435455 := by
    unfold mag at e3; split at e3 <;> omega
  have qa := hi_lo _ a0'.1 a0'.2
  have va := val_of _ a0'.1 a0'.2
  have h00 : hi 0 = 0 := by decide +kernel
  have l00 : lo 0 = 0 := by decide +kernel
  have hk : k.tmod 3 = k % 3 := Int.tmod_eq_emod_of_nonneg k0
  rcases (show k % 3 = 0 ∨ k % 3 = 1 ∨ k % 3 = 2 by omega) with h | h | h
  · have T := fun w hS => turn_any_0 (hi x) (lo x) (by omega) (by omega) (by omega) (by omega) w hS
    rw [vx] at T
    have A := fun w => angles_any 8192 0 0 0 0 0 0 0 (hi (sinv (x + 67108864))) (lo (sinv (x + 67108864))) (hi (-sinv x)) (lo (-sinv x)) 0 0 (hi (sinv x)) (lo (sinv x)) (hi (sinv (x + 67108864))) (lo (sinv (x + 67108864))) (by omega) (by omega) (by omega) (by omega) (by omega) (by omega) (by omega) (by omega) (by omega) (by omega) (by omega) (by omega) (by omega) (by omega) (by omega) (by omega) (by omega) (by omega) (by omega) (by omega) (by omega) (by omega) (by omega) (by omega) (by omega) (by omega) (by omega) (by omega) (by omega) (by omega) (by omega) (by omega) (by omega) (by omega) (by omega) (by omega) w
    simp only [vs, vc, vn, v0, ang_zero, ano_zero, e2, h00, l00, Bool.or_false, Bool.false_or] at A
    have N := fun w => rvalues_any (hi (ang (sinv x) (-sinv x))) (lo (ang (sinv x) (-sinv x))) 0 0 0 0 (by omega) (by omega) (by omega) (by omega) (by omega) (by omega) (by omega) (by omega) (by omega) (by omega) (by omega) (by omega) w
    simp only [va, v0] at N
    exact small_of_0 k a0 a1 _ x _ _ _ _ _ _ _ _ _ _ _ _ _ _ _ _ _ _ _ _ _ _ _ _ _ _ _ (mag (ang (sinv x) (-sinv x) - x)) k0 k1 (hk.trans h) (fun w => rvalue_any a0 a1 ha00 ha01 ha10 ha11 w) (val_lo _ _) (val_hi _ _) hx (fun w => rdouble_any x (by omega) (by omega) w) T A N a0'.1 a0'.2 x0 x1 (fun w => size34s _ (by omega) (by omega) w) (decide_eq_true e3) w hS
  · have T := fun w hS => turn_any_1 (hi x) (lo x) (by omega) (by omega) (by omega) (by omega) w hS
    rw [vx] at T
    have A := fun w => angles_any (hi (sinv (x + 67108864))) (lo (sinv (x + 67108864))) 0 0 (hi (sinv x)) (lo (sinv x)) 0 0 8192 0 0 0 (hi (-sinv x)) (lo (-sinv x)) 0 0 (hi (sinv (x + 67108864))) (lo (sinv (x + 67108864))) (by omega) (by omega) (by omega) (by omega) (by omega) (by omega) (by omega) (by omega) (by omega) (by omega) (by omega) (by omega) (by omega) (by omega) (by omega) (by omega) (by omega) (by omega) (by omega) (by omega) (by omega) (by omega) (by omega) (by omega) (by omega) (by omega) (by omega) (by omega) (by omega) (by omega) (by omega) (by omega) (by omega) (by omega) (by omega) (by omega) w
    simp only [vs, vc, vn, v0, ang_zero, ano_zero, e2, h00, l00, Bool.or_false, Bool.false_or] at A
    have N := fun w => rvalues_any 0 0 (hi (ang (sinv x) (-sinv x))) (lo (ang (sinv x) (-sinv x))) 0 0 (by omega) (by omega) (by omega) (by omega) (by omega) (by omega) (by omega) (by omega) (by omega) (by omega) (by omega) (by omega) w
    simp only [va, v0] at N
    exact small_of_1 k a0 a1 _ x _ _ _ _ _ _ _ _ _ _ _ _ _ _ _ _ _ _ _ _ _ _ _ _ _ _ _ (mag (ang (sinv x) (-sinv x) - x)) k0 k1 (hk.trans h) (fun w => rvalue_any a0 a1 ha00 ha01 ha10 ha11 w) (val_lo _ _) (val_hi _ _) hx (fun w => rdouble_any x (by omega) (by omega) w) T A N a0'.1 a0'.2 x0 x1 (fun w => size34s _ (by omega) (by omega) w) (decide_eq_true e3) w hS
  · have T := fun w hS => turn_any_2 (hi x) (lo x) (by omega) (by omega) (by omega) (by omega) w hS
    rw [vx] at T
    have A := fun w => angles_any (hi (sinv (x + 67108864))) (lo (sinv (x + 67108864))) (hi (-sinv x)) (lo (-sinv x)) 0 0 (hi (sinv x)) (lo (sinv x)) (hi (sinv (x + 67108864))) (lo (sinv (x + 67108864))) 0 0 0 0 0 0 8192 0 (by omega) (by omega) (by omega) (by omega) (by omega) (by omega) (by omega) (by omega) (by omega) (by omega) (by omega) (by omega) (by omega) (by omega) (by omega) (by omega) (by omega) (by omega) (by omega) (by omega) (by omega) (by omega) (by omega) (by omega) (by omega) (by omega) (by omega) (by omega) (by omega) (by omega) (by omega) (by omega) (by omega) (by omega) (by omega) (by omega) w
    simp only [vs, vc, vn, v0, ang_zero, ano_zero, e2, h00, l00, Bool.or_false, Bool.false_or] at A
    have N := fun w => rvalues_any 0 0 0 0 (hi (ang (sinv x) (-sinv x))) (lo (ang (sinv x) (-sinv x))) (by omega) (by omega) (by omega) (by omega) (by omega) (by omega) (by omega) (by omega) (by omega) (by omega) (by omega) (by omega) w
    simp only [va, v0] at N
    exact small_of_2 k a0 a1 _ x _ _ _ _ _ _ _ _ _ _ _ _ _ _ _ _ _ _ _ _ _ _ _ _ _ _ _ (mag (ang (sinv x) (-sinv x) - x)) k0 k1 (hk.trans h) (fun w => rvalue_any a0 a1 ha00 ha01 ha10 ha11 w) (val_lo _ _) (val_hi _ _) hx (fun w => rdouble_any x (by omega) (by omega) w) T A N a0'.1 a0'.2 x0 x1 (fun w => size34s _ (by omega) (by omega) w) (decide_eq_true e3) w hS
end Go.Proofs.YtbbhppjamighdaaDoor
