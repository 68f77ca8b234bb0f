/- The walk of the law AlignKnown: the examples of the chapter have the results that it gives. -/
import Derived.Test.YtbbhppjamighdaaDoorAj
import Derived.Test.YtbbhppjamighdaaDoorAp
namespace Go.Proofs.YtbbhppjamighdaaDoor
set_option linter.unusedSimpArgs false
set_option linter.unusedVariables false
open Go.RowKit

theorem unit34O (w : World) : Calls Tryd.prog 40 #[(.agg #[.int .u16 (0), .int .u16 (0), .int .u16 (0), .int .u16 (0), .int .u16 (0), .int .u16 (0)])] w fun e w' => e = .returned (.tuple #[(.agg #[.int .u16 (0), .int .u16 (0), .int .u16 (0), .int .u16 (0), .int .u16 (0), .int .u16 (0)]), .bool true]) ∧ Below w.heap.size w w' := by
  have k := unit_any 0 0 0 0 0 0 (by omega) (by omega) (by omega) (by omega) (by omega) (by omega) (by omega) (by omega) (by omega) (by omega) (by omega) (by omega) w
  have z : val 0 0 = 0 := by decide +kernel
  unfold unitV at k
  rw [z, if_pos ⟨rfl, rfl, rfl⟩] at k
  exact k
theorem tri34z (w : World) : Calls Tryd.prog 16 #[(.agg #[.int .u16 (0), .int .u16 (0), .int .u16 (0), .int .u16 (0), .int .u16 (0), .int .u16 (0)]), (.agg #[.int .u16 (8192), .int .u16 (0), .int .u16 (0), .int .u16 (0), .int .u16 (0), .int .u16 (0)])] w fun e w' => e = .returned (.tuple #[(.agg #[.int .u16 (0), .int .u16 (0), .int .u16 (0), .int .u16 (0), .int .u16 (0), .int .u16 (0), .int .u16 (0), .int .u16 (0), .int .u16 (0), .int .u16 (0), .int .u16 (0), .int .u16 (0), .int .u16 (0), .int .u16 (0), .int .u16 (0), .int .u16 (0), .int .u16 (0), .int .u16 (0)]), .int .i64 2]) ∧ Below w.heap.size w w' :=
  triad_bad_t _ _ _ _ _ _ _ _ _ _ _ _ _ _ _ _ _ _ _ _ _ _ _ _ false unit34O unit34X w
theorem ang34R (w : World) : Calls Tryd.prog 12 #[(.agg #[.int .u16 (8192), .int .u16 (0), .int .u16 (0), .int .u16 (0), .int .u16 (0), .int .u16 (0), .int .u16 (0), .int .u16 (0), .int .u16 (8192), .int .u16 (0), .int .u16 (0), .int .u16 (0), .int .u16 (0), .int .u16 (0), .int .u16 (0), .int .u16 (0), .int .u16 (8192), .int .u16 (0)])] w fun e w' => e = .returned (.tuple #[(.agg #[.int .u16 (0), .int .u16 (0), .int .u16 (0), .int .u16 (0), .int .u16 (0), .int .u16 (0)]), .bool false]) ∧ Below w.heap.size w w' :=
  calls_val (angles_any 8192 0 0 0 0 0 0 0 8192 0 0 0 0 0 0 0 8192 0 (by omega) (by omega) (by omega) (by omega) (by omega) (by omega) (by omega) (by omega) (by omega) (by omega) (by omega) (by omega) (by omega) (by omega) (by omega) (by omega) (by omega) (by omega) (by omega) (by omega) (by omega) (by omega) (by omega) (by omega) (by omega) (by omega) (by omega) (by omega) (by omega) (by omega) (by omega) (by omega) (by omega) (by omega) (by omega) (by omega) w) (by kernel_rfl)
theorem of34p (w : World) : Calls Tryd.prog 17 #[.int .i64 256, .int .i64 (-192), .int .i64 64] w fun e w' => e = .returned (.agg #[.int .u16 (0), .int .u16 (256), .int .u16 (32767), .int .u16 (32575), .int .u16 (0), .int .u16 (64)]) ∧ Below w.heap.size w w' :=
  calls_val (of34 256 (-192) 64 (by omega) (by omega) (by omega) (by omega) (by omega) (by omega) w) (by kernel_rfl)
theorem pul34 (w : World) : Calls Tryd.prog 14 #[(.agg #[.int .u16 (0), .int .u16 (256), .int .u16 (32767), .int .u16 (32575), .int .u16 (0), .int .u16 (64)])] w fun e w' => e = .returned (.agg #[.int .i64 1, .int .i64 (-1), .int .i64 0]) ∧ Below w.heap.size w w' :=
  calls_val (pulses_any 0 256 32767 32575 0 64 (by omega) (by omega) (by omega) (by omega) (by omega) (by omega) (by omega) (by omega) (by omega) (by omega) (by omega) (by omega) w) (by kernel_rfl)
set_option maxRecDepth 100000 in
set_option maxHeartbeats 8000000 in
theorem known_law34 (w : World) (hS : Sines w) :
    Calls Tryd.prog 4 #[] w fun e w' => e = .returned (.bool true) ∧ Below w.heap.size w w' := by
  have hev := @eq_vec
  have hen := @eq_n3
  go_enter Tryd.func4, Tryd.ntmps4
  go_wp2_with fail
  refine (lives34 _ hS).mono ?_
  rintro _ r0 ⟨rfl, hb0⟩
  have hs0 := hb0.size
  try simp only [World.size_alloc] at hs0
  have hw0 : Below w.heap.size w r0 := (by repeat' (first | (with_reducible exact Below.refl _ _) | (with_reducible refine bl_set ?_ _ ?_) | (with_reducible refine bl_alloc ?_ _) | (with_reducible refine bl_drew ?_) | (with_reducible refine bl_via (by with_reducible assumption) ?_) | (with_reducible assumption) | omega | (simp only []; omega) | (simp; omega)))
  clear hb0
  go_wp2_with (first | fail)
  refine (of34X _).mono ?_
  rintro _ r1 ⟨rfl, hb1⟩
  have hs1 := hb1.size
  have hw1 := bl_via hb1 hw0
  clear hb1 hw0 
  go_wp2_with (first | fail)
  refine (tri34z _).mono ?_
  rintro _ r2 ⟨rfl, hb2⟩
  have hs2 := hb2.size
  have hw2 := bl_via hb2 hw1
  clear hb2 hw1 
  go_wp2_with (first | fail | (refine WL.h ?_; first | (refine wl_store (op := { dst := none, op := .store 29 (.tmp 1) (.tmp 13), type := _, pos := _, after := _, guard := none }) rfl 29 (.tmp 1) (.tmp 13) rfl r2.heap.size 0 _ rfl rfl (there_new (c := #[.int .u16 0, .int .u16 0, .int .u16 0, .int .u16 0, .int .u16 0, .int .u16 0, .int .u16 0, .int .u16 0, .int .u16 0, .int .u16 0, .int .u16 0, .int .u16 0, .int .u16 0, .int .u16 0, .int .u16 0, .int .u16 0, .int .u16 0, .int .u16 0]) (t := 29) (by simp)) hi_mat (by simp [Value.oneCell']) ?_; refine wpList_gen (fun W => Below w.heap.size w W ∧ W.heap.size = r2.heap.size + 1 ∧ W.rangeAt r2.heap.size 0 [.int .u16 0, .int .u16 0, .int .u16 0, .int .u16 0, .int .u16 0, .int .u16 0, .int .u16 0, .int .u16 0, .int .u16 0, .int .u16 0, .int .u16 0, .int .u16 0, .int .u16 0, .int .u16 0, .int .u16 0, .int .u16 0, .int .u16 0, .int .u16 0]) ⟨bl_cells _ _ _ _ (bl_alloc hw2 _) (by omega), size_store, range_here (by simp)⟩ ?_; rintro s2 ⟨hws2, hss2, fs2_1⟩; simp only [Act.put, List.setIfInBounds_toArray, List.set_cons_zero, List.set_cons_succ])))
  refine (turn_bad 3 0 0 (by omega) (by omega) (by omega) _).mono ?_
  rintro _ r3 ⟨rfl, hb3⟩
  have hs3 := hb3.size
  have hw3 := bl_via hb3 hws2
  have f3_1 := range_on fs2_1 hb3 (by omega)
  clear hb3 hws2 fs2_1
  go_wp2_with (first | fail | (refine WL.h ?_; first | (refine wl_store (op := { dst := none, op := .store 29 (.tmp 3) (.tmp 18), type := _, pos := _, after := _, guard := none }) rfl 29 (.tmp 3) (.tmp 18) rfl r3.heap.size 0 _ rfl rfl (there_new (c := #[.int .u16 0, .int .u16 0, .int .u16 0, .int .u16 0, .int .u16 0, .int .u16 0, .int .u16 0, .int .u16 0, .int .u16 0, .int .u16 0, .int .u16 0, .int .u16 0, .int .u16 0, .int .u16 0, .int .u16 0, .int .u16 0, .int .u16 0, .int .u16 0]) (t := 29) (by simp)) hi_mat (by simp [Value.oneCell']) ?_; refine wpList_gen (fun W => Below w.heap.size w W ∧ W.heap.size = r3.heap.size + 1 ∧ W.rangeAt (r2.heap.size) 0 [.int .u16 0, .int .u16 0, .int .u16 0, .int .u16 0, .int .u16 0, .int .u16 0, .int .u16 0, .int .u16 0, .int .u16 0, .int .u16 0, .int .u16 0, .int .u16 0, .int .u16 0, .int .u16 0, .int .u16 0, .int .u16 0, .int .u16 0, .int .u16 0] ∧ W.rangeAt r3.heap.size 0 [.int .u16 0, .int .u16 0, .int .u16 0, .int .u16 0, .int .u16 0, .int .u16 0, .int .u16 0, .int .u16 0, .int .u16 0, .int .u16 0, .int .u16 0, .int .u16 0, .int .u16 0, .int .u16 0, .int .u16 0, .int .u16 0, .int .u16 0, .int .u16 0]) ⟨bl_cells _ _ _ _ (bl_alloc hw3 _) (by omega), size_store, range_store f3_1 (by omega), range_here (by simp)⟩ ?_; clear f3_1; rintro s3 ⟨hws3, hss3, fs3_1, fs3_3⟩; simp only [Act.put, List.setIfInBounds_toArray, List.set_cons_zero, List.set_cons_succ])))
  refine (rows34 _).mono ?_
  rintro _ r4 ⟨rfl, hb4⟩
  have hs4 := hb4.size
  have hw4 := bl_via hb4 hws3
  have f4_1 := range_on fs3_1 hb4 (by omega)
  have f4_3 := range_on fs3_3 hb4 (by omega)
  clear hb4 hws3 fs3_1 fs3_3
  go_wp2_with (first | fail)
  refine (ang34R _).mono ?_
  rintro _ r5 ⟨rfl, hb5⟩
  have hs5 := hb5.size
  have hw5 := bl_via hb5 hw4
  have f5_1 := range_on f4_1 hb5 (by omega)
  have f5_3 := range_on f4_3 hb5 (by omega)
  clear hb5 hw4 f4_1 f4_3
  go_wp2_with (first | fail)
  refine (of34p _).mono ?_
  rintro _ r6 ⟨rfl, hb6⟩
  have hs6 := hb6.size
  simp only [World.size_alloc] at hs6
  have hw6 := bl_via hb6 (bl_alloc hw5 _)
  have f6_1 := range_on (w := _) (range_alloc f5_1 (by omega)) hb6 (by (try simp only [World.size_alloc]); omega)
  have f6_3 := range_on (w := _) (range_alloc f5_3 (by omega)) hb6 (by (try simp only [World.size_alloc]); omega)
  clear hb6 hw5 f5_1 f5_3
  go_wp2_with (first | fail)
  refine (pul34 _).mono ?_
  rintro _ r7 ⟨rfl, hb7⟩
  have hs7 := hb7.size
  have hw7 := bl_via hb7 hw6
  have f7_1 := range_on f6_1 hb7 (by omega)
  have f7_3 := range_on f6_3 hb7 (by omega)
  clear hb7 hw6 f6_1 f6_3
  go_wp2
  go_ret
  exact ⟨rfl, (by repeat' (first | (with_reducible exact Below.refl _ _) | (with_reducible refine bl_set ?_ _ ?_) | (with_reducible refine bl_alloc ?_ _) | (with_reducible refine bl_drew ?_) | (with_reducible refine bl_via (by with_reducible assumption) ?_) | (with_reducible assumption) | omega | (simp only []; omega) | (simp; omega)))⟩
end Go.Proofs.YtbbhppjamighdaaDoor
