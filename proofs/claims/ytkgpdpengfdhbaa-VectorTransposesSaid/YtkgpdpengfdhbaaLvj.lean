/- The walk of the law VectorTransposes, over words given by functions of their number. Printed by gen_lt.py. -/
import Derived.Test.YtkgpdpengfdhbaaLvh
import Derived.Test.YtkgpdpengfdhbaaLvg
import Derived.Test.YtkgpdpengfdhbaaKg
namespace Go.Proofs.Ytkgpdpengfdhbaa
set_option linter.unusedSimpArgs false
set_option linter.unusedVariables false
open Go.RowKit

theorem there_cell {W : World} {b k n : Nat} {o : Nat} {v : Value} (h : W.there b 0 n) (hb : k ≠ b) : (W.setCell ⟨k, o, none⟩ v).there b 0 n := fun j hj => by
  obtain ⟨h1, h2⟩ := h j hj
  refine ⟨?_, by simpa using h2⟩
  rw [World.cell?_setCell_other _ _ _ _ (fun e => hb (congrArg Addr.block e))]; exact h1
theorem there_cell6 {W : World} {b k n : Nat} {o0 o1 o2 o3 o4 o5 : Nat} {v0 v1 v2 v3 v4 v5 : Value} (h : W.there b 0 n) (hb : k ≠ b) : ((((((W.setCell ⟨k, o0, none⟩ v0).setCell ⟨k, o1, none⟩ v1).setCell ⟨k, o2, none⟩ v2).setCell ⟨k, o3, none⟩ v3).setCell ⟨k, o4, none⟩ v4).setCell ⟨k, o5, none⟩ v5).there b 0 n :=
  there_cell (there_cell (there_cell (there_cell (there_cell (there_cell h hb) hb) hb) hb) hb) hb

theorem there_cells {b k n : Nat} (vs : List Value) : ∀ (o : Nat) {W : World}, W.there b 0 n → k ≠ b → (W.setCells k o vs).there b 0 n := by
  induction vs with
  | nil => intro o W h _; exact h
  | cons v r ih => intro o W h hb; exact ih (o + 1) (there_cell h hb) hb
theorem all9 {p : Nat → Nat → Prop} (h00 : p 0 0) (h01 : p 0 1) (h02 : p 0 2) (h10 : p 1 0) (h11 : p 1 1) (h12 : p 1 2) (h20 : p 2 0) (h21 : p 2 1) (h22 : p 2 2) : ∀ i j, i < 3 → j < 3 → p i j
  | 0, 0, _, _ => h00 | 0, 1, _, _ => h01 | 0, 2, _, _ => h02 | 1, 0, _, _ => h10 | 1, 1, _, _ => h11 | 1, 2, _, _ => h12 | 2, 0, _, _ => h20 | 2, 1, _, _ => h21 | 2, 2, _, _ => h22
  | n + 3, _, h, _ => by omega
  | _, n + 3, _, h => by omega

set_option maxRecDepth 100000 in
set_option maxHeartbeats 16000000 in
theorem trans_walk (f n c t s a b p q : Nat → Int) (v : Nat → Nat → Int) (o : Bool)
    (D1 : ∀ w, Calls Try.prog 33 #[(.agg #[.int .u16 (f 0), .int .u16 (f 1), .int .u16 (f 2), .int .u16 (f 3), .int .u16 (f 4), .int .u16 (f 5), .int .u16 (f 6), .int .u16 (f 7), .int .u16 (f 8), .int .u16 (f 9), .int .u16 (f 10), .int .u16 (f 11), .int .u16 (f 12), .int .u16 (f 13), .int .u16 (f 14), .int .u16 (f 15), .int .u16 (f 16), .int .u16 (f 17)])] w fun r w' => r = .returned (.agg #[.int .u16 (t 0), .int .u16 (t 1), .int .u16 (t 2), .int .u16 (t 3), .int .u16 (t 4), .int .u16 (t 5), .int .u16 (t 6), .int .u16 (t 7), .int .u16 (t 8), .int .u16 (t 9), .int .u16 (t 10), .int .u16 (t 11), .int .u16 (t 12), .int .u16 (t 13), .int .u16 (t 14), .int .u16 (t 15), .int .u16 (t 16), .int .u16 (t 17)]) ∧ Below w.heap.size w w')
    (D2 : ∀ w, Calls Try.prog 33 #[(.agg #[.int .u16 (n 0), .int .u16 (n 1), .int .u16 (n 2), .int .u16 (n 3), .int .u16 (n 4), .int .u16 (n 5), .int .u16 (n 6), .int .u16 (n 7), .int .u16 (n 8), .int .u16 (n 9), .int .u16 (n 10), .int .u16 (n 11), .int .u16 (n 12), .int .u16 (n 13), .int .u16 (n 14), .int .u16 (n 15), .int .u16 (n 16), .int .u16 (n 17)])] w fun r w' => r = .returned (.agg #[.int .u16 (s 0), .int .u16 (s 1), .int .u16 (s 2), .int .u16 (s 3), .int .u16 (s 4), .int .u16 (s 5), .int .u16 (s 6), .int .u16 (s 7), .int .u16 (s 8), .int .u16 (s 9), .int .u16 (s 10), .int .u16 (s 11), .int .u16 (s 12), .int .u16 (s 13), .int .u16 (s 14), .int .u16 (s 15), .int .u16 (s 16), .int .u16 (s 17)]) ∧ Below w.heap.size w w')
    (D3 : ∀ w, Calls Try.prog 33 #[(.agg #[.int .u16 (t 0), .int .u16 (t 1), .int .u16 (t 2), .int .u16 (t 3), .int .u16 (t 4), .int .u16 (t 5), .int .u16 (t 6), .int .u16 (t 7), .int .u16 (t 8), .int .u16 (t 9), .int .u16 (t 10), .int .u16 (t 11), .int .u16 (t 12), .int .u16 (t 13), .int .u16 (t 14), .int .u16 (t 15), .int .u16 (t 16), .int .u16 (t 17)])] w fun r w' => r = .returned (.agg #[.int .u16 (c 0), .int .u16 (c 1), .int .u16 (c 2), .int .u16 (c 3), .int .u16 (c 4), .int .u16 (c 5), .int .u16 (c 6), .int .u16 (c 7), .int .u16 (c 8), .int .u16 (c 9), .int .u16 (c 10), .int .u16 (c 11), .int .u16 (c 12), .int .u16 (c 13), .int .u16 (c 14), .int .u16 (c 15), .int .u16 (c 16), .int .u16 (c 17)]) ∧ Below w.heap.size w w')
    (V : ∀ i j : Nat, i < 3 → j < 3 → ∀ w, Calls Try.prog 19 #[(.agg #[.int .u16 (f (i * 6 + j * 2)), .int .u16 (f (i * 6 + j * 2 + 1))])] w fun r w' => r = .returned (.int .i64 (v i j)) ∧ Below w.heap.size w w')
    (E : ∀ i j : Nat, i < 3 → j < 3 → ∀ w, Calls Try.prog 27 #[.int .i64 (v i j)] w fun r w' => r = .returned (.agg #[.int .u16 (c (i * 6 + j * 2)), .int .u16 (c (i * 6 + j * 2 + 1))]) ∧ Below w.heap.size w w')
    (T0 : ∀ i j : Nat, i < 3 → j < 3 → t (j * 6 + i * 2) = c (i * 6 + j * 2)) (T1 : ∀ i j : Nat, i < 3 → j < 3 → t (j * 6 + i * 2 + 1) = c (i * 6 + j * 2 + 1))
    (P1 : ∀ w, Calls Try.prog 31 #[(.agg #[.int .u16 (f 0), .int .u16 (f 1), .int .u16 (f 2), .int .u16 (f 3), .int .u16 (f 4), .int .u16 (f 5), .int .u16 (f 6), .int .u16 (f 7), .int .u16 (f 8), .int .u16 (f 9), .int .u16 (f 10), .int .u16 (f 11), .int .u16 (f 12), .int .u16 (f 13), .int .u16 (f 14), .int .u16 (f 15), .int .u16 (f 16), .int .u16 (f 17)]), (.agg #[.int .u16 (n 0), .int .u16 (n 1), .int .u16 (n 2), .int .u16 (n 3), .int .u16 (n 4), .int .u16 (n 5), .int .u16 (n 6), .int .u16 (n 7), .int .u16 (n 8), .int .u16 (n 9), .int .u16 (n 10), .int .u16 (n 11), .int .u16 (n 12), .int .u16 (n 13), .int .u16 (n 14), .int .u16 (n 15), .int .u16 (n 16), .int .u16 (n 17)])] w fun r w' => r = .returned (.tuple #[(.agg #[.int .u16 (p 0), .int .u16 (p 1), .int .u16 (p 2), .int .u16 (p 3), .int .u16 (p 4), .int .u16 (p 5), .int .u16 (p 6), .int .u16 (p 7), .int .u16 (p 8), .int .u16 (p 9), .int .u16 (p 10), .int .u16 (p 11), .int .u16 (p 12), .int .u16 (p 13), .int .u16 (p 14), .int .u16 (p 15), .int .u16 (p 16), .int .u16 (p 17)]), .bool o]) ∧ Below w.heap.size w w')
    (P2 : ∀ w, Calls Try.prog 31 #[(.agg #[.int .u16 (s 0), .int .u16 (s 1), .int .u16 (s 2), .int .u16 (s 3), .int .u16 (s 4), .int .u16 (s 5), .int .u16 (s 6), .int .u16 (s 7), .int .u16 (s 8), .int .u16 (s 9), .int .u16 (s 10), .int .u16 (s 11), .int .u16 (s 12), .int .u16 (s 13), .int .u16 (s 14), .int .u16 (s 15), .int .u16 (s 16), .int .u16 (s 17)]), (.agg #[.int .u16 (t 0), .int .u16 (t 1), .int .u16 (t 2), .int .u16 (t 3), .int .u16 (t 4), .int .u16 (t 5), .int .u16 (t 6), .int .u16 (t 7), .int .u16 (t 8), .int .u16 (t 9), .int .u16 (t 10), .int .u16 (t 11), .int .u16 (t 12), .int .u16 (t 13), .int .u16 (t 14), .int .u16 (t 15), .int .u16 (t 16), .int .u16 (t 17)])] w fun r w' => r = .returned (.tuple #[(.agg #[.int .u16 (q 0), .int .u16 (q 1), .int .u16 (q 2), .int .u16 (q 3), .int .u16 (q 4), .int .u16 (q 5), .int .u16 (q 6), .int .u16 (q 7), .int .u16 (q 8), .int .u16 (q 9), .int .u16 (q 10), .int .u16 (q 11), .int .u16 (q 12), .int .u16 (q 13), .int .u16 (q 14), .int .u16 (q 15), .int .u16 (q 16), .int .u16 (q 17)]), .bool o]) ∧ Below w.heap.size w w')
    (P3 : ∀ w, Calls Try.prog 33 #[(.agg #[.int .u16 (p 0), .int .u16 (p 1), .int .u16 (p 2), .int .u16 (p 3), .int .u16 (p 4), .int .u16 (p 5), .int .u16 (p 6), .int .u16 (p 7), .int .u16 (p 8), .int .u16 (p 9), .int .u16 (p 10), .int .u16 (p 11), .int .u16 (p 12), .int .u16 (p 13), .int .u16 (p 14), .int .u16 (p 15), .int .u16 (p 16), .int .u16 (p 17)])] w fun r w' => r = .returned (.agg #[.int .u16 (q 0), .int .u16 (q 1), .int .u16 (q 2), .int .u16 (q 3), .int .u16 (q 4), .int .u16 (q 5), .int .u16 (q 6), .int .u16 (q 7), .int .u16 (q 8), .int .u16 (q 9), .int .u16 (q 10), .int .u16 (q 11), .int .u16 (q 12), .int .u16 (q 13), .int .u16 (q 14), .int .u16 (q 15), .int .u16 (q 16), .int .u16 (q 17)]) ∧ Below w.heap.size w w')
    (H1 : ∀ w, Calls Try.prog 26 #[(.agg #[.int .u16 (8192), .int .u16 (0), .int .u16 (0), .int .u16 (0), .int .u16 (0), .int .u16 (0), .int .u16 (0), .int .u16 (0), .int .u16 (8192), .int .u16 (0), .int .u16 (0), .int .u16 (0), .int .u16 (0), .int .u16 (0), .int .u16 (0), .int .u16 (0), .int .u16 (8192), .int .u16 (0)]), (.agg #[.int .u16 (a 0), .int .u16 (a 1), .int .u16 (a 2), .int .u16 (a 3), .int .u16 (a 4), .int .u16 (a 5)])] w fun r w' => r = .returned (.tuple #[(.agg #[.int .u16 (b 0), .int .u16 (b 1), .int .u16 (b 2), .int .u16 (b 3), .int .u16 (b 4), .int .u16 (b 5)]), .bool false]) ∧ Below w.heap.size w w')
    (H2 : ∀ w, Calls Try.prog 35 #[(.agg #[.int .u16 (a 0), .int .u16 (a 1), .int .u16 (a 2), .int .u16 (a 3), .int .u16 (a 4), .int .u16 (a 5)]), .int .i64 (-1)] w fun r w' => r = .returned (.tuple #[(.agg #[.int .u16 (b 0), .int .u16 (b 1), .int .u16 (b 2), .int .u16 (b 3), .int .u16 (b 4), .int .u16 (b 5)]), .bool false]) ∧ Below w.heap.size w w') (w : World) :
    Calls Try.prog 9 #[(.agg #[.int .u16 (f 0), .int .u16 (f 1), .int .u16 (f 2), .int .u16 (f 3), .int .u16 (f 4), .int .u16 (f 5), .int .u16 (f 6), .int .u16 (f 7), .int .u16 (f 8), .int .u16 (f 9), .int .u16 (f 10), .int .u16 (f 11), .int .u16 (f 12), .int .u16 (f 13), .int .u16 (f 14), .int .u16 (f 15), .int .u16 (f 16), .int .u16 (f 17)]), (.agg #[.int .u16 (n 0), .int .u16 (n 1), .int .u16 (n 2), .int .u16 (n 3), .int .u16 (n 4), .int .u16 (n 5), .int .u16 (n 6), .int .u16 (n 7), .int .u16 (n 8), .int .u16 (n 9), .int .u16 (n 10), .int .u16 (n 11), .int .u16 (n 12), .int .u16 (n 13), .int .u16 (n 14), .int .u16 (n 15), .int .u16 (n 16), .int .u16 (n 17)]), (.agg #[.int .u16 (a 0), .int .u16 (a 1), .int .u16 (a 2), .int .u16 (a 3), .int .u16 (a 4), .int .u16 (a 5)])] w fun r w' => r = .returned (.bool true) ∧ Below w.heap.size w w' := by
  have heq := @eq_dbl
  have hev := @eq_vec
  have hem := @eq_mat
  have q0 : hi 134217728 = 8192 := by decide +kernel
  have q1 : lo 134217728 = 0 := by decide +kernel
  have q2 : hi 0 = 0 := by decide +kernel
  have q3 : lo 0 = 0 := by decide +kernel
  have O1 := fun w => of_any 134217728 0 0 (by omega) (by omega) (by omega) (by omega) (by omega) (by omega) w
  have O2 := fun w => of_any 0 134217728 0 (by omega) (by omega) (by omega) (by omega) (by omega) (by omega) w
  have O3 := fun w => of_any 0 0 134217728 (by omega) (by omega) (by omega) (by omega) (by omega) (by omega) w
  simp only [q0, q1, q2, q3] at O1 O2 O3
  clear q0 q1 q2 q3
  go_enter Try.func9, Try.ntmps9
  go_wp2_with fail
  refine (lives_any _).mono ?_
  rintro _ r0 ⟨rfl, hb0⟩
  have f0_3 : r0.rangeAt (w.heap.size) 0 [.int .u16 (f 0), .int .u16 (f 1), .int .u16 (f 2), .int .u16 (f 3), .int .u16 (f 4), .int .u16 (f 5), .int .u16 (f 6), .int .u16 (f 7), .int .u16 (f 8), .int .u16 (f 9), .int .u16 (f 10), .int .u16 (f 11), .int .u16 (f 12), .int .u16 (f 13), .int .u16 (f 14), .int .u16 (f 15), .int .u16 (f 16), .int .u16 (f 17)] := range_on (w := _) (range_row (c := #[.int .u16 (f 0), .int .u16 (f 1), .int .u16 (f 2), .int .u16 (f 3), .int .u16 (f 4), .int .u16 (f 5), .int .u16 (f 6), .int .u16 (f 7), .int .u16 (f 8), .int .u16 (f 9), .int .u16 (f 10), .int .u16 (f 11), .int .u16 (f 12), .int .u16 (f 13), .int .u16 (f 14), .int .u16 (f 15), .int .u16 (f 16), .int .u16 (f 17)]) (t := 46) (fr := (0, 0)) (by repeat (first | exact heap_new (by simp only [World.size_alloc]) | exact heap_new rfl | refine heap_old (by (try simp only [World.size_alloc]); omega) ?_))) hb0 (by (try simp only [World.size_alloc]); omega)
  have f0_4 : r0.rangeAt (w.heap.size + 1) 0 [.int .u16 (n 0), .int .u16 (n 1), .int .u16 (n 2), .int .u16 (n 3), .int .u16 (n 4), .int .u16 (n 5), .int .u16 (n 6), .int .u16 (n 7), .int .u16 (n 8), .int .u16 (n 9), .int .u16 (n 10), .int .u16 (n 11), .int .u16 (n 12), .int .u16 (n 13), .int .u16 (n 14), .int .u16 (n 15), .int .u16 (n 16), .int .u16 (n 17)] := range_on (w := _) (range_row (c := #[.int .u16 (n 0), .int .u16 (n 1), .int .u16 (n 2), .int .u16 (n 3), .int .u16 (n 4), .int .u16 (n 5), .int .u16 (n 6), .int .u16 (n 7), .int .u16 (n 8), .int .u16 (n 9), .int .u16 (n 10), .int .u16 (n 11), .int .u16 (n 12), .int .u16 (n 13), .int .u16 (n 14), .int .u16 (n 15), .int .u16 (n 16), .int .u16 (n 17)]) (t := 46) (fr := (0, 0)) (by repeat (first | exact heap_new (by simp only [World.size_alloc]) | exact heap_new rfl | refine heap_old (by (try simp only [World.size_alloc]); omega) ?_))) hb0 (by (try simp only [World.size_alloc]); omega)
  have f0_5 : r0.rangeAt (w.heap.size + 1 + 1) 0 [.int .u16 (a 0), .int .u16 (a 1), .int .u16 (a 2), .int .u16 (a 3), .int .u16 (a 4), .int .u16 (a 5)] := range_on (w := _) (range_row (c := #[.int .u16 (a 0), .int .u16 (a 1), .int .u16 (a 2), .int .u16 (a 3), .int .u16 (a 4), .int .u16 (a 5)]) (t := 27) (fr := (0, 0)) (by repeat (first | exact heap_new (by simp only [World.size_alloc]) | exact heap_new rfl | refine heap_old (by (try simp only [World.size_alloc]); omega) ?_))) hb0 (by (try simp only [World.size_alloc]); omega)
  have hs0 := hb0.size
  try simp only [World.size_alloc] at hs0
  have hw0 : Below w.heap.size w r0 := (by repeat' (first | (with_reducible exact Below.refl _ _) | (with_reducible refine bl_set ?_ _ ?_) | (with_reducible refine bl_alloc ?_ _) | (with_reducible refine bl_drew ?_) | (with_reducible refine bl_via (by with_reducible assumption) ?_) | (with_reducible assumption) | omega | (simp only []; omega) | (simp; omega)))
  clear hb0
  go_wp2_with fail
  have hecr1 := @Ext.cell2
  refine wp_region_float2 4 _ _ _ _ _ (.cells #[.int .u16 0, .int .u16 0, .int .u16 0, .int .u16 0, .int .u16 0, .int .u16 0, .int .u16 0, .int .u16 0, .int .u16 0, .int .u16 0, .int .u16 0, .int .u16 0, .int .u16 0, .int .u16 0, .int .u16 0, .int .u16 0, .int .u16 0, .int .u16 0] 46) (.cells #[.int .u16 0, .int .u16 0, .int .u16 0, .int .u16 0, .int .u16 0, .int .u16 0, .int .u16 0, .int .u16 0, .int .u16 0, .int .u16 0, .int .u16 0, .int .u16 0, .int .u16 0, .int .u16 0, .int .u16 0, .int .u16 0, .int .u16 0, .int .u16 0] 46) (by kernel_rfl) (by kernel_rfl) rfl rfl rfl rfl rfl rfl rfl rfl (fun _ _ => by simp [go_sem]) (fun _ _ => by simp [go_sem]) (by kernel_rfl) (by kernel_rfl) (by kernel_rfl) rfl ?_
  apply Exists.intro
  refine ⟨fun W' => ?_, ?_⟩
  · simp only [List.take_succ_cons, List.take_zero]
    repeat (first | go_big_quiet_skip | (go_big_quiet_want; first | (refine QW.h ?_; first | (refine qw_load (op := { dst := some 23, op := .load 46 (.tmp 3), type := _, pos := _, after := _, guard := _ }) 46 (.tmp 3) rfl (w.heap.size) 0 rfl [.int .u16 (f 0), .int .u16 (f 1), .int .u16 (f 2), .int .u16 (f 3), .int .u16 (f 4), .int .u16 (f 5), .int .u16 (f 6), .int .u16 (f 7), .int .u16 (f 8), .int .u16 (f 9), .int .u16 (f 10), .int .u16 (f 11), .int .u16 (f 12), .int .u16 (f 13), .int .u16 (f 14), .int .u16 (f 15), .int .u16 (f 16), .int .u16 (f 17)] _ (range_ext2 f0_3 (by omega) W') hu_mat rfl hi_mat ?_; simp only [Act.put, List.setIfInBounds_toArray, List.set_cons_zero, List.set_cons_succ]; go_big_quiet_on) | (refine qw_load (op := { dst := some 25, op := .load 46 (.tmp 4), type := _, pos := _, after := _, guard := _ }) 46 (.tmp 4) rfl (w.heap.size + 1) 0 rfl [.int .u16 (n 0), .int .u16 (n 1), .int .u16 (n 2), .int .u16 (n 3), .int .u16 (n 4), .int .u16 (n 5), .int .u16 (n 6), .int .u16 (n 7), .int .u16 (n 8), .int .u16 (n 9), .int .u16 (n 10), .int .u16 (n 11), .int .u16 (n 12), .int .u16 (n 13), .int .u16 (n 14), .int .u16 (n 15), .int .u16 (n 16), .int .u16 (n 17)] _ (range_ext2 f0_4 (by omega) W') hu_mat rfl hi_mat ?_; simp only [Act.put, List.setIfInBounds_toArray, List.set_cons_zero, List.set_cons_succ]; go_big_quiet_on)) | (go_big_quiet_op; first | go_big_quiet_on | (go_big_quiet_call ((first | fail | (go_at_call 33; first | with_reducible exact ext_call (D1 _) | with_reducible exact ext_call (D2 _))))))))
    exact wpQuiet_nil rfl
  clear hecr1
  simp only [List.drop_succ_cons, List.drop_zero, Act.put, List.setIfInBounds_toArray, List.set_cons_zero, List.set_cons_succ]
  rintro B1 C1 r1 hbr1 ⟨hBr1, hDr1, hEr1⟩ ⟨hBcr1, hDcr1, hEcr1⟩ hner1
  have hnfr1 := Ne.symm hner1
  have hGr1_0 := block_cell hEr1 0
  have hGr1_1 := block_cell hEr1 1
  have hGr1_2 := block_cell hEr1 2
  have hGr1_3 := block_cell hEr1 3
  have hGr1_4 := block_cell hEr1 4
  have hGr1_5 := block_cell hEr1 5
  have hGr1_6 := block_cell hEr1 6
  have hGr1_7 := block_cell hEr1 7
  have hGr1_8 := block_cell hEr1 8
  have hGr1_9 := block_cell hEr1 9
  have hGr1_10 := block_cell hEr1 10
  have hGr1_11 := block_cell hEr1 11
  have hGr1_12 := block_cell hEr1 12
  have hGr1_13 := block_cell hEr1 13
  have hGr1_14 := block_cell hEr1 14
  have hGr1_15 := block_cell hEr1 15
  have hGr1_16 := block_cell hEr1 16
  have hGr1_17 := block_cell hEr1 17
  have hFr1 := block_free hEr1
  have hGcr1_0 := block_cell hEcr1 0
  have hGcr1_1 := block_cell hEcr1 1
  have hGcr1_2 := block_cell hEcr1 2
  have hGcr1_3 := block_cell hEcr1 3
  have hGcr1_4 := block_cell hEcr1 4
  have hGcr1_5 := block_cell hEcr1 5
  have hGcr1_6 := block_cell hEcr1 6
  have hGcr1_7 := block_cell hEcr1 7
  have hGcr1_8 := block_cell hEcr1 8
  have hGcr1_9 := block_cell hEcr1 9
  have hGcr1_10 := block_cell hEcr1 10
  have hGcr1_11 := block_cell hEcr1 11
  have hGcr1_12 := block_cell hEcr1 12
  have hGcr1_13 := block_cell hEcr1 13
  have hGcr1_14 := block_cell hEcr1 14
  have hGcr1_15 := block_cell hEcr1 15
  have hGcr1_16 := block_cell hEcr1 16
  have hGcr1_17 := block_cell hEcr1 17
  have hFcr1 := block_free hEcr1
  simp only [List.getElem?_toArray, List.getElem?_cons_zero, List.getElem?_cons_succ] at hGr1_0 hGr1_1 hGr1_2 hGr1_3 hGr1_4 hGr1_5 hGr1_6 hGr1_7 hGr1_8 hGr1_9 hGr1_10 hGr1_11 hGr1_12 hGr1_13 hGr1_14 hGr1_15 hGr1_16 hGr1_17 hGcr1_0 hGcr1_1 hGcr1_2 hGcr1_3 hGcr1_4 hGcr1_5 hGcr1_6 hGcr1_7 hGcr1_8 hGcr1_9 hGcr1_10 hGcr1_11 hGcr1_12 hGcr1_13 hGcr1_14 hGcr1_15 hGcr1_16 hGcr1_17
  clear hEr1 hEcr1
  try simp only [World.size_alloc, World.size_setCell, World.size_drew] at hBr1
  try simp only [World.size_alloc, World.size_setCell, World.size_drew] at hBcr1
  obtain ⟨hcr1, hfr1⟩ := bcell hbr1
  have hzr1 := hbr1.size
  try simp only [World.size_alloc, World.size_setCell, World.size_drew] at hzr1
  have hs1 := hbr1.size
  have hw1 := bl_via hbr1 hw0
  have f1_3 := range_on f0_3 hbr1 (by omega)
  have f1_4 := range_on f0_4 hbr1 (by omega)
  have f1_5 := range_on f0_5 hbr1 (by omega)
  clear hw0 f0_3 f0_4 f0_5
  have hth := there18 (g := fun _ => .int .u16 0) (fun i hi => match i, hi with | 0, _ => hGr1_0 | 1, _ => hGr1_1 | 2, _ => hGr1_2 | 3, _ => hGr1_3 | 4, _ => hGr1_4 | 5, _ => hGr1_5 | 6, _ => hGr1_6 | 7, _ => hGr1_7 | 8, _ => hGr1_8 | 9, _ => hGr1_9 | 10, _ => hGr1_10 | 11, _ => hGr1_11 | 12, _ => hGr1_12 | 13, _ => hGr1_13 | 14, _ => hGr1_14 | 15, _ => hGr1_15 | 16, _ => hGr1_16 | 17, _ => hGr1_17 | n + 18, h => by omega) hFr1
  have htc := there18 (g := fun _ => .int .u16 0) (fun i hi => match i, hi with | 0, _ => hGcr1_0 | 1, _ => hGcr1_1 | 2, _ => hGcr1_2 | 3, _ => hGcr1_3 | 4, _ => hGcr1_4 | 5, _ => hGcr1_5 | 6, _ => hGcr1_6 | 7, _ => hGcr1_7 | 8, _ => hGcr1_8 | 9, _ => hGcr1_9 | 10, _ => hGcr1_10 | 11, _ => hGcr1_11 | 12, _ => hGcr1_12 | 13, _ => hGcr1_13 | 14, _ => hGcr1_14 | 15, _ => hGcr1_15 | 16, _ => hGcr1_16 | 17, _ => hGcr1_17 | n + 18, h => by omega) hFcr1
  refine wpList_store_mid (op := { dst := none, op := .store 46 (.tmp 7) (.tmp 24), type := _, pos := _, after := _, guard := none }) rfl 46 (.tmp 7) (.tmp 24) rfl B1 0 _ rfl rfl hth hi_mat (by simp [Value.oneCell']) ?_
  refine wpList_store_mid (op := { dst := none, op := .store 46 (.tmp 8) (.tmp 26), type := _, pos := _, after := _, guard := none }) rfl 46 (.tmp 8) (.tmp 26) rfl C1 0 _ rfl rfl (there_cells _ _ htc (by omega)) hi_mat (by simp [Value.oneCell']) ?_
  refine wpList_gen (fun W => Below w.heap.size w W ∧ W.heap.size = r1.heap.size ∧ W.rangeAt (w.heap.size) 0 [.int .u16 (f 0), .int .u16 (f 1), .int .u16 (f 2), .int .u16 (f 3), .int .u16 (f 4), .int .u16 (f 5), .int .u16 (f 6), .int .u16 (f 7), .int .u16 (f 8), .int .u16 (f 9), .int .u16 (f 10), .int .u16 (f 11), .int .u16 (f 12), .int .u16 (f 13), .int .u16 (f 14), .int .u16 (f 15), .int .u16 (f 16), .int .u16 (f 17)] ∧ W.rangeAt (w.heap.size + 1) 0 [.int .u16 (n 0), .int .u16 (n 1), .int .u16 (n 2), .int .u16 (n 3), .int .u16 (n 4), .int .u16 (n 5), .int .u16 (n 6), .int .u16 (n 7), .int .u16 (n 8), .int .u16 (n 9), .int .u16 (n 10), .int .u16 (n 11), .int .u16 (n 12), .int .u16 (n 13), .int .u16 (n 14), .int .u16 (n 15), .int .u16 (n 16), .int .u16 (n 17)] ∧ W.rangeAt (w.heap.size + 1 + 1) 0 [.int .u16 (a 0), .int .u16 (a 1), .int .u16 (a 2), .int .u16 (a 3), .int .u16 (a 4), .int .u16 (a 5)] ∧ W.rangeAt B1 0 [.int .u16 (t 0), .int .u16 (t 1), .int .u16 (t 2), .int .u16 (t 3), .int .u16 (t 4), .int .u16 (t 5), .int .u16 (t 6), .int .u16 (t 7), .int .u16 (t 8), .int .u16 (t 9), .int .u16 (t 10), .int .u16 (t 11), .int .u16 (t 12), .int .u16 (t 13), .int .u16 (t 14), .int .u16 (t 15), .int .u16 (t 16), .int .u16 (t 17)] ∧ W.rangeAt C1 0 [.int .u16 (s 0), .int .u16 (s 1), .int .u16 (s 2), .int .u16 (s 3), .int .u16 (s 4), .int .u16 (s 5), .int .u16 (s 6), .int .u16 (s 7), .int .u16 (s 8), .int .u16 (s 9), .int .u16 (s 10), .int .u16 (s 11), .int .u16 (s 12), .int .u16 (s 13), .int .u16 (s 14), .int .u16 (s 15), .int .u16 (s 16), .int .u16 (s 17)]) ⟨bl_cells _ _ _ _ (bl_cells _ _ _ _ hw1 (by omega)) (by omega), (size_cells _ _ _ _).trans (size_cells _ _ _ _), World.rangeAt_setCells_apart (World.rangeAt_setCells_apart f1_3 _ _ _ (.inl (by omega))) _ _ _ (.inl (by omega)), World.rangeAt_setCells_apart (World.rangeAt_setCells_apart f1_4 _ _ _ (.inl (by omega))) _ _ _ (.inl (by omega)), World.rangeAt_setCells_apart (World.rangeAt_setCells_apart f1_5 _ _ _ (.inl (by omega))) _ _ _ (.inl (by omega)), World.rangeAt_setCells_apart (World.rangeAt_setCells_same _ _ _ _ hth) _ _ _ (.inl (by omega)), World.rangeAt_setCells_same _ _ _ _ (there_cells _ _ htc (by omega))⟩ ?_
  clear hth htc hw1 hbr1 hFr1 hFcr1 hGr1_0 hGcr1_0 hGr1_1 hGcr1_1 hGr1_2 hGcr1_2 hGr1_3 hGcr1_3 hGr1_4 hGcr1_4 hGr1_5 hGcr1_5 hGr1_6 hGcr1_6 hGr1_7 hGcr1_7 hGr1_8 hGcr1_8 hGr1_9 hGcr1_9 hGr1_10 hGcr1_10 hGr1_11 hGcr1_11 hGr1_12 hGcr1_12 hGr1_13 hGcr1_13 hGr1_14 hGcr1_14 hGr1_15 hGcr1_15 hGr1_16 hGcr1_16 hGr1_17 hGcr1_17 f1_3 f1_4 f1_5
  rintro s1 ⟨hws1, hss1, fs1_3, fs1_4, fs1_5, fs1_7, fs1_8⟩
  simp only [Act.put, List.setIfInBounds_toArray, List.set_cons_zero, List.set_cons_succ]
  go_wp2_with (first | fail | (refine WL.h ?_; first | (refine wl_load (op := { dst := some 27, op := .load 46 (.tmp 7), type := _, pos := _, after := _, guard := _ }) rfl 46 (.tmp 7) rfl (B1) 0 rfl [.int .u16 (t 0), .int .u16 (t 1), .int .u16 (t 2), .int .u16 (t 3), .int .u16 (t 4), .int .u16 (t 5), .int .u16 (t 6), .int .u16 (t 7), .int .u16 (t 8), .int .u16 (t 9), .int .u16 (t 10), .int .u16 (t 11), .int .u16 (t 12), .int .u16 (t 13), .int .u16 (t 14), .int .u16 (t 15), .int .u16 (t 16), .int .u16 (t 17)] _ fs1_7 hu_mat rfl hi_mat ?_; simp only [Act.put, List.setIfInBounds_toArray, List.set_cons_zero, List.set_cons_succ])))
  refine (D3 _).mono ?_
  rintro _ r2 ⟨rfl, hb2⟩
  have hs2 := hb2.size
  have hw2 := bl_via hb2 hws1
  have f2_3 := range_on fs1_3 hb2 (by omega)
  have f2_4 := range_on fs1_4 hb2 (by omega)
  have f2_5 := range_on fs1_5 hb2 (by omega)
  have f2_7 := range_on fs1_7 hb2 (by omega)
  have f2_8 := range_on fs1_8 hb2 (by omega)
  clear hb2 hws1 fs1_3 fs1_4 fs1_5 fs1_7 fs1_8
  go_wp2_with (first | fail | (refine WL.h ?_; (refine wl_store (op := { dst := none, op := .store 46 (.tmp 9) (.tmp 28), type := _, pos := _, after := _, guard := none }) rfl 46 (.tmp 9) (.tmp 28) rfl r2.heap.size 0 _ rfl rfl (there_new (c := #[.int .u16 0, .int .u16 0, .int .u16 0, .int .u16 0, .int .u16 0, .int .u16 0, .int .u16 0, .int .u16 0, .int .u16 0, .int .u16 0, .int .u16 0, .int .u16 0, .int .u16 0, .int .u16 0, .int .u16 0, .int .u16 0, .int .u16 0, .int .u16 0]) (t := 46) (by simp)) hi_mat (by simp [Value.oneCell']) ?_; refine wpList_gen (fun W => Below w.heap.size w W ∧ W.heap.size = r2.heap.size + 1 ∧ W.rangeAt (w.heap.size) 0 [.int .u16 (f 0), .int .u16 (f 1), .int .u16 (f 2), .int .u16 (f 3), .int .u16 (f 4), .int .u16 (f 5), .int .u16 (f 6), .int .u16 (f 7), .int .u16 (f 8), .int .u16 (f 9), .int .u16 (f 10), .int .u16 (f 11), .int .u16 (f 12), .int .u16 (f 13), .int .u16 (f 14), .int .u16 (f 15), .int .u16 (f 16), .int .u16 (f 17)] ∧ W.rangeAt (w.heap.size + 1) 0 [.int .u16 (n 0), .int .u16 (n 1), .int .u16 (n 2), .int .u16 (n 3), .int .u16 (n 4), .int .u16 (n 5), .int .u16 (n 6), .int .u16 (n 7), .int .u16 (n 8), .int .u16 (n 9), .int .u16 (n 10), .int .u16 (n 11), .int .u16 (n 12), .int .u16 (n 13), .int .u16 (n 14), .int .u16 (n 15), .int .u16 (n 16), .int .u16 (n 17)] ∧ W.rangeAt (w.heap.size + 1 + 1) 0 [.int .u16 (a 0), .int .u16 (a 1), .int .u16 (a 2), .int .u16 (a 3), .int .u16 (a 4), .int .u16 (a 5)] ∧ W.rangeAt (B1) 0 [.int .u16 (t 0), .int .u16 (t 1), .int .u16 (t 2), .int .u16 (t 3), .int .u16 (t 4), .int .u16 (t 5), .int .u16 (t 6), .int .u16 (t 7), .int .u16 (t 8), .int .u16 (t 9), .int .u16 (t 10), .int .u16 (t 11), .int .u16 (t 12), .int .u16 (t 13), .int .u16 (t 14), .int .u16 (t 15), .int .u16 (t 16), .int .u16 (t 17)] ∧ W.rangeAt (C1) 0 [.int .u16 (s 0), .int .u16 (s 1), .int .u16 (s 2), .int .u16 (s 3), .int .u16 (s 4), .int .u16 (s 5), .int .u16 (s 6), .int .u16 (s 7), .int .u16 (s 8), .int .u16 (s 9), .int .u16 (s 10), .int .u16 (s 11), .int .u16 (s 12), .int .u16 (s 13), .int .u16 (s 14), .int .u16 (s 15), .int .u16 (s 16), .int .u16 (s 17)] ∧ W.rangeAt r2.heap.size 0 [.int .u16 (c 0), .int .u16 (c 1), .int .u16 (c 2), .int .u16 (c 3), .int .u16 (c 4), .int .u16 (c 5), .int .u16 (c 6), .int .u16 (c 7), .int .u16 (c 8), .int .u16 (c 9), .int .u16 (c 10), .int .u16 (c 11), .int .u16 (c 12), .int .u16 (c 13), .int .u16 (c 14), .int .u16 (c 15), .int .u16 (c 16), .int .u16 (c 17)]) ⟨bl_cells _ _ _ _ (bl_alloc hw2 _) (by omega), size_store, range_store f2_3 (by omega), range_store f2_4 (by omega), range_store f2_5 (by omega), range_store f2_7 (by omega), range_store f2_8 (by omega), range_here (by simp)⟩ ?_; clear f2_3 f2_4 f2_5 f2_7 f2_8; rintro s2 ⟨hws2, hss2, fs2_3, fs2_4, fs2_5, fs2_7, fs2_8, fs2_9⟩; simp only [Act.put, List.setIfInBounds_toArray, List.set_cons_zero, List.set_cons_succ])))
  have F3 : Holds s2 w.heap.size 18 f := holds_of18 fs2_3
  have F7 : Holds s2 B1 18 t := holds_of18 fs2_7
  have F9 : Holds s2 r2.heap.size 18 c := holds_of18 fs2_9
  go_loopw [10] (fun v W => ∃ i : Nat, i ≤ 3 ∧ v = .int .i64 i ∧ Below s2.heap.size s2 W) (fun v _ => (3 - intOf v).toNat)
  case atStart => exact ⟨0, by omega, rfl, Below.refl _ _⟩
  case round =>
    obtain ⟨wo, rfl⟩ : ∃ wo : World, wo = wr := ⟨_, rfl⟩
    obtain ⟨i, hI, rfl, hb1⟩ := hrel
    by_cases hlt : i < 3
    · go_wp2_with fail
      go_loopw [11] (fun v W => ∃ j : Nat, j ≤ 3 ∧ v = .int .i64 j ∧ Below s2.heap.size s2 W) (fun v _ => (3 - intOf v).toNat)
      case atStart => exact ⟨0, by omega, rfl, hb1⟩
      case round =>
        clear hb1
        obtain ⟨j, hj, rfl, hb1⟩ := hrel
        by_cases hjt : j < 3
        · have hsz := hb1.size
          have hA : w.heap.size < wr.heap.size := by omega
          have hB : B1 < wr.heap.size := by omega
          have hC : r2.heap.size < wr.heap.size := by omega
          have hA0 : wr.cell? ⟨w.heap.size, i * 6 + j * 2, none⟩ = some (.int .u16 (f (i * 6 + j * 2))) := (hb1.cell (p := ⟨_, _, none⟩) (by show w.heap.size < _; omega)).trans (F3 _ (by omega))
          have hA1 : wr.cell? ⟨w.heap.size, i * 6 + j * 2 + 1, none⟩ = some (.int .u16 (f (i * 6 + j * 2 + 1))) := (hb1.cell (p := ⟨_, _, none⟩) (by show w.heap.size < _; omega)).trans (F3 _ (by omega))
          have hB0 : wr.cell? ⟨B1, j * 6 + i * 2, none⟩ = some (.int .u16 (c (i * 6 + j * 2))) := by rw [← T0 i j hlt hjt]; exact (hb1.cell (p := ⟨_, _, none⟩) (by show B1 < _; omega)).trans (F7 _ (by omega))
          have hB1 : wr.cell? ⟨B1, j * 6 + i * 2 + 1, none⟩ = some (.int .u16 (c (i * 6 + j * 2 + 1))) := by rw [← T1 i j hlt hjt]; exact (hb1.cell (p := ⟨_, _, none⟩) (by show B1 < _; omega)).trans (F7 _ (by omega))
          have hC0 : wr.cell? ⟨r2.heap.size, i * 6 + j * 2, none⟩ = some (.int .u16 (c (i * 6 + j * 2))) := (hb1.cell (p := ⟨_, _, none⟩) (by show r2.heap.size < _; omega)).trans (F9 _ (by omega))
          have hC1 : wr.cell? ⟨r2.heap.size, i * 6 + j * 2 + 1, none⟩ = some (.int .u16 (c (i * 6 + j * 2 + 1))) := (hb1.cell (p := ⟨_, _, none⟩) (by show r2.heap.size < _; omega)).trans (F9 _ (by omega))
          go_wp2_with fail
          have hecr9 := @Ext.cell
          refine wp_region_ext (by kernel_rfl) (by kernel_rfl) ?_
          repeat (first | go_big_quiet_skip | (go_big_quiet_want; go_big_quiet_op; first | go_big_quiet_on | (go_big_quiet_call ((first | fail | (go_at_call 19; with_reducible exact ext_call (V i j hlt hjt _)) | (go_at_call 27; with_reducible exact ext_call (E i j hlt hjt _)))))))
          clear hecr9
          refine wpQuiet_nil ?_
          rintro r9 ⟨⟨_, hbr9⟩, rfl⟩
          obtain ⟨hcr9, hfr9⟩ := bcell hbr9
          have hzr9 := hbr9.size
          try simp only [World.size_alloc, World.size_setCell, World.size_drew] at hzr9
          have hb2 := bl_via hbr9 hb1
          clear hA0 hA1 hB0 hB1 hC0 hC1 hb1
          go_wp2_with fail
          go_roundw
          case rel => exact ⟨j + 1, by omega, by go_num, hb2⟩
          case measure => simp [intOf]; omega
        · obtain rfl : j = 3 := by omega
          go_wp2_with fail
          go_roundw
          case rel => exact ⟨i + 1, by omega, by go_num, hb1⟩
          case measure => simp [intOf]; omega
    · obtain rfl : i = 3 := by omega
      clear F3 F7 F9 hlt hI
      obtain ⟨r3, rfl⟩ : ∃ r : World, r = wo := ⟨_, rfl⟩
      have hs3 := hb1.size
      have hw3 := bl_via hb1 hws2
      have f3_3 := range_on fs2_3 hb1 (by omega)
      have f3_4 := range_on fs2_4 hb1 (by omega)
      have f3_5 := range_on fs2_5 hb1 (by omega)
      have f3_7 := range_on fs2_7 hb1 (by omega)
      have f3_8 := range_on fs2_8 hb1 (by omega)
      have f3_9 := range_on fs2_9 hb1 (by omega)
      clear hb1 hws2 fs2_3 fs2_4 fs2_5 fs2_7 fs2_8 fs2_9
      go_wp2_with (first | fail | (refine WL.h ?_; first | (refine wl_load (op := { dst := some 64, op := .load 46 (.tmp 3), type := _, pos := _, after := _, guard := _ }) rfl 46 (.tmp 3) rfl (w.heap.size) 0 rfl [.int .u16 (f 0), .int .u16 (f 1), .int .u16 (f 2), .int .u16 (f 3), .int .u16 (f 4), .int .u16 (f 5), .int .u16 (f 6), .int .u16 (f 7), .int .u16 (f 8), .int .u16 (f 9), .int .u16 (f 10), .int .u16 (f 11), .int .u16 (f 12), .int .u16 (f 13), .int .u16 (f 14), .int .u16 (f 15), .int .u16 (f 16), .int .u16 (f 17)] _ f3_3 hu_mat rfl hi_mat ?_; simp only [Act.put, List.setIfInBounds_toArray, List.set_cons_zero, List.set_cons_succ]) | (refine wl_load (op := { dst := some 65, op := .load 46 (.tmp 4), type := _, pos := _, after := _, guard := _ }) rfl 46 (.tmp 4) rfl (w.heap.size + 1) 0 rfl [.int .u16 (n 0), .int .u16 (n 1), .int .u16 (n 2), .int .u16 (n 3), .int .u16 (n 4), .int .u16 (n 5), .int .u16 (n 6), .int .u16 (n 7), .int .u16 (n 8), .int .u16 (n 9), .int .u16 (n 10), .int .u16 (n 11), .int .u16 (n 12), .int .u16 (n 13), .int .u16 (n 14), .int .u16 (n 15), .int .u16 (n 16), .int .u16 (n 17)] _ f3_4 hu_mat rfl hi_mat ?_; simp only [Act.put, List.setIfInBounds_toArray, List.set_cons_zero, List.set_cons_succ])))
      refine (P1 _).mono ?_
      rintro _ r4 ⟨rfl, hb4⟩
      have hs4 := hb4.size
      have hw4 := bl_via hb4 hw3
      have f4_3 := range_on f3_3 hb4 (by omega)
      have f4_4 := range_on f3_4 hb4 (by omega)
      have f4_5 := range_on f3_5 hb4 (by omega)
      have f4_7 := range_on f3_7 hb4 (by omega)
      have f4_8 := range_on f3_8 hb4 (by omega)
      have f4_9 := range_on f3_9 hb4 (by omega)
      clear hb4 hw3 f3_3 f3_4 f3_5 f3_7 f3_8 f3_9
      go_wp2_with (first | fail | (refine WL.h ?_; first | (refine wl_store (op := { dst := none, op := .store 46 (.tmp 12) (.tmp 67), type := _, pos := _, after := _, guard := none }) rfl 46 (.tmp 12) (.tmp 67) rfl r4.heap.size 0 _ rfl rfl (there_new (c := #[.int .u16 0, .int .u16 0, .int .u16 0, .int .u16 0, .int .u16 0, .int .u16 0, .int .u16 0, .int .u16 0, .int .u16 0, .int .u16 0, .int .u16 0, .int .u16 0, .int .u16 0, .int .u16 0, .int .u16 0, .int .u16 0, .int .u16 0, .int .u16 0]) (t := 46) (by simp)) hi_mat (by simp [Value.oneCell']) ?_; refine wpList_gen (fun W => Below w.heap.size w W ∧ W.heap.size = r4.heap.size + 1 ∧ W.rangeAt (w.heap.size) 0 [.int .u16 (f 0), .int .u16 (f 1), .int .u16 (f 2), .int .u16 (f 3), .int .u16 (f 4), .int .u16 (f 5), .int .u16 (f 6), .int .u16 (f 7), .int .u16 (f 8), .int .u16 (f 9), .int .u16 (f 10), .int .u16 (f 11), .int .u16 (f 12), .int .u16 (f 13), .int .u16 (f 14), .int .u16 (f 15), .int .u16 (f 16), .int .u16 (f 17)] ∧ W.rangeAt (w.heap.size + 1) 0 [.int .u16 (n 0), .int .u16 (n 1), .int .u16 (n 2), .int .u16 (n 3), .int .u16 (n 4), .int .u16 (n 5), .int .u16 (n 6), .int .u16 (n 7), .int .u16 (n 8), .int .u16 (n 9), .int .u16 (n 10), .int .u16 (n 11), .int .u16 (n 12), .int .u16 (n 13), .int .u16 (n 14), .int .u16 (n 15), .int .u16 (n 16), .int .u16 (n 17)] ∧ W.rangeAt (w.heap.size + 1 + 1) 0 [.int .u16 (a 0), .int .u16 (a 1), .int .u16 (a 2), .int .u16 (a 3), .int .u16 (a 4), .int .u16 (a 5)] ∧ W.rangeAt (B1) 0 [.int .u16 (t 0), .int .u16 (t 1), .int .u16 (t 2), .int .u16 (t 3), .int .u16 (t 4), .int .u16 (t 5), .int .u16 (t 6), .int .u16 (t 7), .int .u16 (t 8), .int .u16 (t 9), .int .u16 (t 10), .int .u16 (t 11), .int .u16 (t 12), .int .u16 (t 13), .int .u16 (t 14), .int .u16 (t 15), .int .u16 (t 16), .int .u16 (t 17)] ∧ W.rangeAt (C1) 0 [.int .u16 (s 0), .int .u16 (s 1), .int .u16 (s 2), .int .u16 (s 3), .int .u16 (s 4), .int .u16 (s 5), .int .u16 (s 6), .int .u16 (s 7), .int .u16 (s 8), .int .u16 (s 9), .int .u16 (s 10), .int .u16 (s 11), .int .u16 (s 12), .int .u16 (s 13), .int .u16 (s 14), .int .u16 (s 15), .int .u16 (s 16), .int .u16 (s 17)] ∧ W.rangeAt (r2.heap.size) 0 [.int .u16 (c 0), .int .u16 (c 1), .int .u16 (c 2), .int .u16 (c 3), .int .u16 (c 4), .int .u16 (c 5), .int .u16 (c 6), .int .u16 (c 7), .int .u16 (c 8), .int .u16 (c 9), .int .u16 (c 10), .int .u16 (c 11), .int .u16 (c 12), .int .u16 (c 13), .int .u16 (c 14), .int .u16 (c 15), .int .u16 (c 16), .int .u16 (c 17)] ∧ W.rangeAt r4.heap.size 0 [.int .u16 (p 0), .int .u16 (p 1), .int .u16 (p 2), .int .u16 (p 3), .int .u16 (p 4), .int .u16 (p 5), .int .u16 (p 6), .int .u16 (p 7), .int .u16 (p 8), .int .u16 (p 9), .int .u16 (p 10), .int .u16 (p 11), .int .u16 (p 12), .int .u16 (p 13), .int .u16 (p 14), .int .u16 (p 15), .int .u16 (p 16), .int .u16 (p 17)]) ⟨bl_cells _ _ _ _ (bl_alloc hw4 _) (by omega), size_store, range_store f4_3 (by omega), range_store f4_4 (by omega), range_store f4_5 (by omega), range_store f4_7 (by omega), range_store f4_8 (by omega), range_store f4_9 (by omega), range_here (by simp)⟩ ?_; clear f4_3 f4_4 f4_5 f4_7 f4_8 f4_9; rintro s4 ⟨hws4, hss4, fs4_3, fs4_4, fs4_5, fs4_7, fs4_8, fs4_9, fs4_12⟩; simp only [Act.put, List.setIfInBounds_toArray, List.set_cons_zero, List.set_cons_succ]) | (refine wl_load (op := { dst := some 70, op := .load 46 (.tmp 8), type := _, pos := _, after := _, guard := _ }) rfl 46 (.tmp 8) rfl (C1) 0 rfl [.int .u16 (s 0), .int .u16 (s 1), .int .u16 (s 2), .int .u16 (s 3), .int .u16 (s 4), .int .u16 (s 5), .int .u16 (s 6), .int .u16 (s 7), .int .u16 (s 8), .int .u16 (s 9), .int .u16 (s 10), .int .u16 (s 11), .int .u16 (s 12), .int .u16 (s 13), .int .u16 (s 14), .int .u16 (s 15), .int .u16 (s 16), .int .u16 (s 17)] _ fs4_8 hu_mat rfl hi_mat ?_; simp only [Act.put, List.setIfInBounds_toArray, List.set_cons_zero, List.set_cons_succ]) | (refine wl_load (op := { dst := some 71, op := .load 46 (.tmp 7), type := _, pos := _, after := _, guard := _ }) rfl 46 (.tmp 7) rfl (B1) 0 rfl [.int .u16 (t 0), .int .u16 (t 1), .int .u16 (t 2), .int .u16 (t 3), .int .u16 (t 4), .int .u16 (t 5), .int .u16 (t 6), .int .u16 (t 7), .int .u16 (t 8), .int .u16 (t 9), .int .u16 (t 10), .int .u16 (t 11), .int .u16 (t 12), .int .u16 (t 13), .int .u16 (t 14), .int .u16 (t 15), .int .u16 (t 16), .int .u16 (t 17)] _ fs4_7 hu_mat rfl hi_mat ?_; simp only [Act.put, List.setIfInBounds_toArray, List.set_cons_zero, List.set_cons_succ])))
      refine (P2 _).mono ?_
      rintro _ r5 ⟨rfl, hb5⟩
      have hs5 := hb5.size
      have hw5 := bl_via hb5 hws4
      have f5_3 := range_on fs4_3 hb5 (by omega)
      have f5_4 := range_on fs4_4 hb5 (by omega)
      have f5_5 := range_on fs4_5 hb5 (by omega)
      have f5_7 := range_on fs4_7 hb5 (by omega)
      have f5_8 := range_on fs4_8 hb5 (by omega)
      have f5_9 := range_on fs4_9 hb5 (by omega)
      have f5_12 := range_on fs4_12 hb5 (by omega)
      clear hb5 hws4 fs4_3 fs4_4 fs4_5 fs4_7 fs4_8 fs4_9 fs4_12
      go_wp2_with (first | fail | (refine WL.h ?_; (refine wl_store (op := { dst := none, op := .store 46 (.tmp 14) (.tmp 73), type := _, pos := _, after := _, guard := none }) rfl 46 (.tmp 14) (.tmp 73) rfl r5.heap.size 0 _ rfl rfl (there_new (c := #[.int .u16 0, .int .u16 0, .int .u16 0, .int .u16 0, .int .u16 0, .int .u16 0, .int .u16 0, .int .u16 0, .int .u16 0, .int .u16 0, .int .u16 0, .int .u16 0, .int .u16 0, .int .u16 0, .int .u16 0, .int .u16 0, .int .u16 0, .int .u16 0]) (t := 46) (by simp)) hi_mat (by simp [Value.oneCell']) ?_; refine wpList_gen (fun W => Below w.heap.size w W ∧ W.heap.size = r5.heap.size + 1 ∧ W.rangeAt (w.heap.size) 0 [.int .u16 (f 0), .int .u16 (f 1), .int .u16 (f 2), .int .u16 (f 3), .int .u16 (f 4), .int .u16 (f 5), .int .u16 (f 6), .int .u16 (f 7), .int .u16 (f 8), .int .u16 (f 9), .int .u16 (f 10), .int .u16 (f 11), .int .u16 (f 12), .int .u16 (f 13), .int .u16 (f 14), .int .u16 (f 15), .int .u16 (f 16), .int .u16 (f 17)] ∧ W.rangeAt (w.heap.size + 1) 0 [.int .u16 (n 0), .int .u16 (n 1), .int .u16 (n 2), .int .u16 (n 3), .int .u16 (n 4), .int .u16 (n 5), .int .u16 (n 6), .int .u16 (n 7), .int .u16 (n 8), .int .u16 (n 9), .int .u16 (n 10), .int .u16 (n 11), .int .u16 (n 12), .int .u16 (n 13), .int .u16 (n 14), .int .u16 (n 15), .int .u16 (n 16), .int .u16 (n 17)] ∧ W.rangeAt (w.heap.size + 1 + 1) 0 [.int .u16 (a 0), .int .u16 (a 1), .int .u16 (a 2), .int .u16 (a 3), .int .u16 (a 4), .int .u16 (a 5)] ∧ W.rangeAt (B1) 0 [.int .u16 (t 0), .int .u16 (t 1), .int .u16 (t 2), .int .u16 (t 3), .int .u16 (t 4), .int .u16 (t 5), .int .u16 (t 6), .int .u16 (t 7), .int .u16 (t 8), .int .u16 (t 9), .int .u16 (t 10), .int .u16 (t 11), .int .u16 (t 12), .int .u16 (t 13), .int .u16 (t 14), .int .u16 (t 15), .int .u16 (t 16), .int .u16 (t 17)] ∧ W.rangeAt (C1) 0 [.int .u16 (s 0), .int .u16 (s 1), .int .u16 (s 2), .int .u16 (s 3), .int .u16 (s 4), .int .u16 (s 5), .int .u16 (s 6), .int .u16 (s 7), .int .u16 (s 8), .int .u16 (s 9), .int .u16 (s 10), .int .u16 (s 11), .int .u16 (s 12), .int .u16 (s 13), .int .u16 (s 14), .int .u16 (s 15), .int .u16 (s 16), .int .u16 (s 17)] ∧ W.rangeAt (r2.heap.size) 0 [.int .u16 (c 0), .int .u16 (c 1), .int .u16 (c 2), .int .u16 (c 3), .int .u16 (c 4), .int .u16 (c 5), .int .u16 (c 6), .int .u16 (c 7), .int .u16 (c 8), .int .u16 (c 9), .int .u16 (c 10), .int .u16 (c 11), .int .u16 (c 12), .int .u16 (c 13), .int .u16 (c 14), .int .u16 (c 15), .int .u16 (c 16), .int .u16 (c 17)] ∧ W.rangeAt (r4.heap.size) 0 [.int .u16 (p 0), .int .u16 (p 1), .int .u16 (p 2), .int .u16 (p 3), .int .u16 (p 4), .int .u16 (p 5), .int .u16 (p 6), .int .u16 (p 7), .int .u16 (p 8), .int .u16 (p 9), .int .u16 (p 10), .int .u16 (p 11), .int .u16 (p 12), .int .u16 (p 13), .int .u16 (p 14), .int .u16 (p 15), .int .u16 (p 16), .int .u16 (p 17)] ∧ W.rangeAt r5.heap.size 0 [.int .u16 (q 0), .int .u16 (q 1), .int .u16 (q 2), .int .u16 (q 3), .int .u16 (q 4), .int .u16 (q 5), .int .u16 (q 6), .int .u16 (q 7), .int .u16 (q 8), .int .u16 (q 9), .int .u16 (q 10), .int .u16 (q 11), .int .u16 (q 12), .int .u16 (q 13), .int .u16 (q 14), .int .u16 (q 15), .int .u16 (q 16), .int .u16 (q 17)]) ⟨bl_cells _ _ _ _ (bl_alloc hw5 _) (by omega), size_store, range_store f5_3 (by omega), range_store f5_4 (by omega), range_store f5_5 (by omega), range_store f5_7 (by omega), range_store f5_8 (by omega), range_store f5_9 (by omega), range_store f5_12 (by omega), range_here (by simp)⟩ ?_; clear f5_3 f5_4 f5_5 f5_7 f5_8 f5_9 f5_12; rintro s5 ⟨hws5, hss5, fs5_3, fs5_4, fs5_5, fs5_7, fs5_8, fs5_9, fs5_12, fs5_14⟩; simp only [Act.put, List.setIfInBounds_toArray, List.set_cons_zero, List.set_cons_succ])))
      have hecr6 := @Ext.cell
      refine wp_region_ext (by kernel_rfl) (by kernel_rfl) ?_
      repeat (first | go_big_quiet_skip | (go_big_quiet_want; first | (refine QW.h ?_; first | (refine qw_load (op := { dst := some 75, op := .load 46 (.tmp 12), type := _, pos := _, after := _, guard := _ }) 46 (.tmp 12) rfl (r4.heap.size) 0 rfl [.int .u16 (p 0), .int .u16 (p 1), .int .u16 (p 2), .int .u16 (p 3), .int .u16 (p 4), .int .u16 (p 5), .int .u16 (p 6), .int .u16 (p 7), .int .u16 (p 8), .int .u16 (p 9), .int .u16 (p 10), .int .u16 (p 11), .int .u16 (p 12), .int .u16 (p 13), .int .u16 (p 14), .int .u16 (p 15), .int .u16 (p 16), .int .u16 (p 17)] _ (range_ext fs5_12 (by omega)) hu_mat rfl hi_mat ?_; simp only [Act.put, List.setIfInBounds_toArray, List.set_cons_zero, List.set_cons_succ]; go_big_quiet_on) | (refine qw_load (op := { dst := some 77, op := .load 46 (.tmp 14), type := _, pos := _, after := _, guard := _ }) 46 (.tmp 14) rfl (r5.heap.size) 0 rfl [.int .u16 (q 0), .int .u16 (q 1), .int .u16 (q 2), .int .u16 (q 3), .int .u16 (q 4), .int .u16 (q 5), .int .u16 (q 6), .int .u16 (q 7), .int .u16 (q 8), .int .u16 (q 9), .int .u16 (q 10), .int .u16 (q 11), .int .u16 (q 12), .int .u16 (q 13), .int .u16 (q 14), .int .u16 (q 15), .int .u16 (q 16), .int .u16 (q 17)] _ (range_ext fs5_14 (by omega)) hu_mat rfl hi_mat ?_; simp only [Act.put, List.setIfInBounds_toArray, List.set_cons_zero, List.set_cons_succ]; go_big_quiet_on)) | (go_big_quiet_op; first | go_big_quiet_on | (go_big_quiet_call ((first | fail | (go_at_call 33; with_reducible exact ext_call (P3 _))))))))
      clear hecr6
      refine wpQuiet_nil ?_
      rintro r6 ⟨⟨_, hbr6⟩, rfl⟩
      obtain ⟨hcr6, hfr6⟩ := bcell hbr6
      have hzr6 := hbr6.size
      try simp only [World.size_alloc, World.size_setCell, World.size_drew] at hzr6
      have hs6 := hbr6.size
      have hw6 := bl_via hbr6 hws5
      have f6_3 := range_on fs5_3 hbr6 (by omega)
      have f6_4 := range_on fs5_4 hbr6 (by omega)
      have f6_5 := range_on fs5_5 hbr6 (by omega)
      have f6_7 := range_on fs5_7 hbr6 (by omega)
      have f6_8 := range_on fs5_8 hbr6 (by omega)
      have f6_9 := range_on fs5_9 hbr6 (by omega)
      have f6_12 := range_on fs5_12 hbr6 (by omega)
      have f6_14 := range_on fs5_14 hbr6 (by omega)
      clear hws5 fs5_3 fs5_4 fs5_5 fs5_7 fs5_8 fs5_9 fs5_12 fs5_14
      go_wp2_with (first | fail)
      refine (O1 _).mono ?_
      rintro _ r7 ⟨rfl, hb7⟩
      have hs7 := hb7.size
      have hw7 := bl_via hb7 hw6
      have f7_3 := range_on f6_3 hb7 (by omega)
      have f7_4 := range_on f6_4 hb7 (by omega)
      have f7_5 := range_on f6_5 hb7 (by omega)
      have f7_7 := range_on f6_7 hb7 (by omega)
      have f7_8 := range_on f6_8 hb7 (by omega)
      have f7_9 := range_on f6_9 hb7 (by omega)
      have f7_12 := range_on f6_12 hb7 (by omega)
      have f7_14 := range_on f6_14 hb7 (by omega)
      clear hb7 hw6 f6_3 f6_4 f6_5 f6_7 f6_8 f6_9 f6_12 f6_14
      go_wp2_with (first | fail)
      refine (O2 _).mono ?_
      rintro _ r8 ⟨rfl, hb8⟩
      have hs8 := hb8.size
      have hw8 := bl_via hb8 hw7
      have f8_3 := range_on f7_3 hb8 (by omega)
      have f8_4 := range_on f7_4 hb8 (by omega)
      have f8_5 := range_on f7_5 hb8 (by omega)
      have f8_7 := range_on f7_7 hb8 (by omega)
      have f8_8 := range_on f7_8 hb8 (by omega)
      have f8_9 := range_on f7_9 hb8 (by omega)
      have f8_12 := range_on f7_12 hb8 (by omega)
      have f8_14 := range_on f7_14 hb8 (by omega)
      clear hb8 hw7 f7_3 f7_4 f7_5 f7_7 f7_8 f7_9 f7_12 f7_14
      go_wp2_with (first | fail)
      refine (O3 _).mono ?_
      rintro _ r9 ⟨rfl, hb9⟩
      have hs9 := hb9.size
      have hw9 := bl_via hb9 hw8
      have f9_3 := range_on f8_3 hb9 (by omega)
      have f9_4 := range_on f8_4 hb9 (by omega)
      have f9_5 := range_on f8_5 hb9 (by omega)
      have f9_7 := range_on f8_7 hb9 (by omega)
      have f9_8 := range_on f8_8 hb9 (by omega)
      have f9_9 := range_on f8_9 hb9 (by omega)
      have f9_12 := range_on f8_12 hb9 (by omega)
      have f9_14 := range_on f8_14 hb9 (by omega)
      clear hb9 hw8 f8_3 f8_4 f8_5 f8_7 f8_8 f8_9 f8_12 f8_14
      go_wp2_with (first | fail | (refine WL.h ?_; first | (refine wl_store (op := { dst := none, op := .store 46 (.tmp 16) (.tmp 87), type := _, pos := _, after := _, guard := none }) rfl 46 (.tmp 16) (.tmp 87) rfl r9.heap.size 0 _ rfl rfl (there_new (c := #[.int .u16 0, .int .u16 0, .int .u16 0, .int .u16 0, .int .u16 0, .int .u16 0, .int .u16 0, .int .u16 0, .int .u16 0, .int .u16 0, .int .u16 0, .int .u16 0, .int .u16 0, .int .u16 0, .int .u16 0, .int .u16 0, .int .u16 0, .int .u16 0]) (t := 46) (by simp)) hi_mat (by simp [Value.oneCell']) ?_; refine wpList_gen (fun W => Below w.heap.size w W ∧ W.heap.size = r9.heap.size + 1 ∧ W.rangeAt (w.heap.size) 0 [.int .u16 (f 0), .int .u16 (f 1), .int .u16 (f 2), .int .u16 (f 3), .int .u16 (f 4), .int .u16 (f 5), .int .u16 (f 6), .int .u16 (f 7), .int .u16 (f 8), .int .u16 (f 9), .int .u16 (f 10), .int .u16 (f 11), .int .u16 (f 12), .int .u16 (f 13), .int .u16 (f 14), .int .u16 (f 15), .int .u16 (f 16), .int .u16 (f 17)] ∧ W.rangeAt (w.heap.size + 1) 0 [.int .u16 (n 0), .int .u16 (n 1), .int .u16 (n 2), .int .u16 (n 3), .int .u16 (n 4), .int .u16 (n 5), .int .u16 (n 6), .int .u16 (n 7), .int .u16 (n 8), .int .u16 (n 9), .int .u16 (n 10), .int .u16 (n 11), .int .u16 (n 12), .int .u16 (n 13), .int .u16 (n 14), .int .u16 (n 15), .int .u16 (n 16), .int .u16 (n 17)] ∧ W.rangeAt (w.heap.size + 1 + 1) 0 [.int .u16 (a 0), .int .u16 (a 1), .int .u16 (a 2), .int .u16 (a 3), .int .u16 (a 4), .int .u16 (a 5)] ∧ W.rangeAt (B1) 0 [.int .u16 (t 0), .int .u16 (t 1), .int .u16 (t 2), .int .u16 (t 3), .int .u16 (t 4), .int .u16 (t 5), .int .u16 (t 6), .int .u16 (t 7), .int .u16 (t 8), .int .u16 (t 9), .int .u16 (t 10), .int .u16 (t 11), .int .u16 (t 12), .int .u16 (t 13), .int .u16 (t 14), .int .u16 (t 15), .int .u16 (t 16), .int .u16 (t 17)] ∧ W.rangeAt (C1) 0 [.int .u16 (s 0), .int .u16 (s 1), .int .u16 (s 2), .int .u16 (s 3), .int .u16 (s 4), .int .u16 (s 5), .int .u16 (s 6), .int .u16 (s 7), .int .u16 (s 8), .int .u16 (s 9), .int .u16 (s 10), .int .u16 (s 11), .int .u16 (s 12), .int .u16 (s 13), .int .u16 (s 14), .int .u16 (s 15), .int .u16 (s 16), .int .u16 (s 17)] ∧ W.rangeAt (r2.heap.size) 0 [.int .u16 (c 0), .int .u16 (c 1), .int .u16 (c 2), .int .u16 (c 3), .int .u16 (c 4), .int .u16 (c 5), .int .u16 (c 6), .int .u16 (c 7), .int .u16 (c 8), .int .u16 (c 9), .int .u16 (c 10), .int .u16 (c 11), .int .u16 (c 12), .int .u16 (c 13), .int .u16 (c 14), .int .u16 (c 15), .int .u16 (c 16), .int .u16 (c 17)] ∧ W.rangeAt (r4.heap.size) 0 [.int .u16 (p 0), .int .u16 (p 1), .int .u16 (p 2), .int .u16 (p 3), .int .u16 (p 4), .int .u16 (p 5), .int .u16 (p 6), .int .u16 (p 7), .int .u16 (p 8), .int .u16 (p 9), .int .u16 (p 10), .int .u16 (p 11), .int .u16 (p 12), .int .u16 (p 13), .int .u16 (p 14), .int .u16 (p 15), .int .u16 (p 16), .int .u16 (p 17)] ∧ W.rangeAt (r5.heap.size) 0 [.int .u16 (q 0), .int .u16 (q 1), .int .u16 (q 2), .int .u16 (q 3), .int .u16 (q 4), .int .u16 (q 5), .int .u16 (q 6), .int .u16 (q 7), .int .u16 (q 8), .int .u16 (q 9), .int .u16 (q 10), .int .u16 (q 11), .int .u16 (q 12), .int .u16 (q 13), .int .u16 (q 14), .int .u16 (q 15), .int .u16 (q 16), .int .u16 (q 17)] ∧ W.rangeAt r9.heap.size 0 [.int .u16 8192, .int .u16 0, .int .u16 0, .int .u16 0, .int .u16 0, .int .u16 0, .int .u16 0, .int .u16 0, .int .u16 8192, .int .u16 0, .int .u16 0, .int .u16 0, .int .u16 0, .int .u16 0, .int .u16 0, .int .u16 0, .int .u16 8192, .int .u16 0]) ⟨bl_cells _ _ _ _ (bl_alloc hw9 _) (by omega), size_store, range_store f9_3 (by omega), range_store f9_4 (by omega), range_store f9_5 (by omega), range_store f9_7 (by omega), range_store f9_8 (by omega), range_store f9_9 (by omega), range_store f9_12 (by omega), range_store f9_14 (by omega), range_here (by simp)⟩ ?_; clear f9_3 f9_4 f9_5 f9_7 f9_8 f9_9 f9_12 f9_14; rintro s9 ⟨hws9, hss9, fs9_3, fs9_4, fs9_5, fs9_7, fs9_8, fs9_9, fs9_12, fs9_14, fs9_16⟩; simp only [Act.put, List.setIfInBounds_toArray, List.set_cons_zero, List.set_cons_succ]) | (refine wl_load (op := { dst := some 89, op := .load 46 (.tmp 16), type := _, pos := _, after := _, guard := _ }) rfl 46 (.tmp 16) rfl (r9.heap.size) 0 rfl [.int .u16 8192, .int .u16 0, .int .u16 0, .int .u16 0, .int .u16 0, .int .u16 0, .int .u16 0, .int .u16 0, .int .u16 8192, .int .u16 0, .int .u16 0, .int .u16 0, .int .u16 0, .int .u16 0, .int .u16 0, .int .u16 0, .int .u16 8192, .int .u16 0] _ fs9_16 hu_mat rfl hi_mat ?_; simp only [Act.put, List.setIfInBounds_toArray, List.set_cons_zero, List.set_cons_succ]) | (refine wl_load (op := { dst := some 90, op := .load 27 (.tmp 5), type := _, pos := _, after := _, guard := _ }) rfl 27 (.tmp 5) rfl (w.heap.size + 1 + 1) 0 rfl [.int .u16 (a 0), .int .u16 (a 1), .int .u16 (a 2), .int .u16 (a 3), .int .u16 (a 4), .int .u16 (a 5)] _ fs9_5 hu_vec rfl hi_vec ?_; simp only [Act.put, List.setIfInBounds_toArray, List.set_cons_zero, List.set_cons_succ])))
      refine (H1 _).mono ?_
      rintro _ r10 ⟨rfl, hb10⟩
      have hs10 := hb10.size
      have hw10 := bl_via hb10 hws9
      have f10_3 := range_on fs9_3 hb10 (by omega)
      have f10_4 := range_on fs9_4 hb10 (by omega)
      have f10_5 := range_on fs9_5 hb10 (by omega)
      have f10_7 := range_on fs9_7 hb10 (by omega)
      have f10_8 := range_on fs9_8 hb10 (by omega)
      have f10_9 := range_on fs9_9 hb10 (by omega)
      have f10_12 := range_on fs9_12 hb10 (by omega)
      have f10_14 := range_on fs9_14 hb10 (by omega)
      have f10_16 := range_on fs9_16 hb10 (by omega)
      clear hb10 hws9 fs9_3 fs9_4 fs9_5 fs9_7 fs9_8 fs9_9 fs9_12 fs9_14 fs9_16
      go_wp2_with (first | fail | (refine WL.h ?_; first | (refine wl_store (op := { dst := none, op := .store 27 (.tmp 17) (.tmp 92), type := _, pos := _, after := _, guard := none }) rfl 27 (.tmp 17) (.tmp 92) rfl r10.heap.size 0 _ rfl rfl (there_new (c := #[.int .u16 0, .int .u16 0, .int .u16 0, .int .u16 0, .int .u16 0, .int .u16 0]) (t := 27) (by simp)) hi_vec (by simp [Value.oneCell']) ?_; refine wpList_gen (fun W => Below w.heap.size w W ∧ W.heap.size = r10.heap.size + 1 ∧ W.rangeAt (w.heap.size) 0 [.int .u16 (f 0), .int .u16 (f 1), .int .u16 (f 2), .int .u16 (f 3), .int .u16 (f 4), .int .u16 (f 5), .int .u16 (f 6), .int .u16 (f 7), .int .u16 (f 8), .int .u16 (f 9), .int .u16 (f 10), .int .u16 (f 11), .int .u16 (f 12), .int .u16 (f 13), .int .u16 (f 14), .int .u16 (f 15), .int .u16 (f 16), .int .u16 (f 17)] ∧ W.rangeAt (w.heap.size + 1) 0 [.int .u16 (n 0), .int .u16 (n 1), .int .u16 (n 2), .int .u16 (n 3), .int .u16 (n 4), .int .u16 (n 5), .int .u16 (n 6), .int .u16 (n 7), .int .u16 (n 8), .int .u16 (n 9), .int .u16 (n 10), .int .u16 (n 11), .int .u16 (n 12), .int .u16 (n 13), .int .u16 (n 14), .int .u16 (n 15), .int .u16 (n 16), .int .u16 (n 17)] ∧ W.rangeAt (w.heap.size + 1 + 1) 0 [.int .u16 (a 0), .int .u16 (a 1), .int .u16 (a 2), .int .u16 (a 3), .int .u16 (a 4), .int .u16 (a 5)] ∧ W.rangeAt (B1) 0 [.int .u16 (t 0), .int .u16 (t 1), .int .u16 (t 2), .int .u16 (t 3), .int .u16 (t 4), .int .u16 (t 5), .int .u16 (t 6), .int .u16 (t 7), .int .u16 (t 8), .int .u16 (t 9), .int .u16 (t 10), .int .u16 (t 11), .int .u16 (t 12), .int .u16 (t 13), .int .u16 (t 14), .int .u16 (t 15), .int .u16 (t 16), .int .u16 (t 17)] ∧ W.rangeAt (C1) 0 [.int .u16 (s 0), .int .u16 (s 1), .int .u16 (s 2), .int .u16 (s 3), .int .u16 (s 4), .int .u16 (s 5), .int .u16 (s 6), .int .u16 (s 7), .int .u16 (s 8), .int .u16 (s 9), .int .u16 (s 10), .int .u16 (s 11), .int .u16 (s 12), .int .u16 (s 13), .int .u16 (s 14), .int .u16 (s 15), .int .u16 (s 16), .int .u16 (s 17)] ∧ W.rangeAt (r2.heap.size) 0 [.int .u16 (c 0), .int .u16 (c 1), .int .u16 (c 2), .int .u16 (c 3), .int .u16 (c 4), .int .u16 (c 5), .int .u16 (c 6), .int .u16 (c 7), .int .u16 (c 8), .int .u16 (c 9), .int .u16 (c 10), .int .u16 (c 11), .int .u16 (c 12), .int .u16 (c 13), .int .u16 (c 14), .int .u16 (c 15), .int .u16 (c 16), .int .u16 (c 17)] ∧ W.rangeAt (r4.heap.size) 0 [.int .u16 (p 0), .int .u16 (p 1), .int .u16 (p 2), .int .u16 (p 3), .int .u16 (p 4), .int .u16 (p 5), .int .u16 (p 6), .int .u16 (p 7), .int .u16 (p 8), .int .u16 (p 9), .int .u16 (p 10), .int .u16 (p 11), .int .u16 (p 12), .int .u16 (p 13), .int .u16 (p 14), .int .u16 (p 15), .int .u16 (p 16), .int .u16 (p 17)] ∧ W.rangeAt (r5.heap.size) 0 [.int .u16 (q 0), .int .u16 (q 1), .int .u16 (q 2), .int .u16 (q 3), .int .u16 (q 4), .int .u16 (q 5), .int .u16 (q 6), .int .u16 (q 7), .int .u16 (q 8), .int .u16 (q 9), .int .u16 (q 10), .int .u16 (q 11), .int .u16 (q 12), .int .u16 (q 13), .int .u16 (q 14), .int .u16 (q 15), .int .u16 (q 16), .int .u16 (q 17)] ∧ W.rangeAt (r9.heap.size) 0 [.int .u16 8192, .int .u16 0, .int .u16 0, .int .u16 0, .int .u16 0, .int .u16 0, .int .u16 0, .int .u16 0, .int .u16 8192, .int .u16 0, .int .u16 0, .int .u16 0, .int .u16 0, .int .u16 0, .int .u16 0, .int .u16 0, .int .u16 8192, .int .u16 0] ∧ W.rangeAt r10.heap.size 0 [.int .u16 (b 0), .int .u16 (b 1), .int .u16 (b 2), .int .u16 (b 3), .int .u16 (b 4), .int .u16 (b 5)]) ⟨bl_cells _ _ _ _ (bl_alloc hw10 _) (by omega), size_store, range_store f10_3 (by omega), range_store f10_4 (by omega), range_store f10_5 (by omega), range_store f10_7 (by omega), range_store f10_8 (by omega), range_store f10_9 (by omega), range_store f10_12 (by omega), range_store f10_14 (by omega), range_store f10_16 (by omega), range_here (by simp)⟩ ?_; clear f10_3 f10_4 f10_5 f10_7 f10_8 f10_9 f10_12 f10_14 f10_16; rintro s10 ⟨hws10, hss10, fs10_3, fs10_4, fs10_5, fs10_7, fs10_8, fs10_9, fs10_12, fs10_14, fs10_16, fs10_17⟩; simp only [Act.put, List.setIfInBounds_toArray, List.set_cons_zero, List.set_cons_succ]) | (refine wl_load (op := { dst := some 95, op := .load 27 (.tmp 5), type := _, pos := _, after := _, guard := _ }) rfl 27 (.tmp 5) rfl (w.heap.size + 1 + 1) 0 rfl [.int .u16 (a 0), .int .u16 (a 1), .int .u16 (a 2), .int .u16 (a 3), .int .u16 (a 4), .int .u16 (a 5)] _ fs10_5 hu_vec rfl hi_vec ?_; simp only [Act.put, List.setIfInBounds_toArray, List.set_cons_zero, List.set_cons_succ])))
      refine (H2 _).mono ?_
      rintro _ r11 ⟨rfl, hb11⟩
      have hs11 := hb11.size
      have hw11 := bl_via hb11 hws10
      have f11_3 := range_on fs10_3 hb11 (by omega)
      have f11_4 := range_on fs10_4 hb11 (by omega)
      have f11_5 := range_on fs10_5 hb11 (by omega)
      have f11_7 := range_on fs10_7 hb11 (by omega)
      have f11_8 := range_on fs10_8 hb11 (by omega)
      have f11_9 := range_on fs10_9 hb11 (by omega)
      have f11_12 := range_on fs10_12 hb11 (by omega)
      have f11_14 := range_on fs10_14 hb11 (by omega)
      have f11_16 := range_on fs10_16 hb11 (by omega)
      have f11_17 := range_on fs10_17 hb11 (by omega)
      clear hb11 hws10 fs10_3 fs10_4 fs10_5 fs10_7 fs10_8 fs10_9 fs10_12 fs10_14 fs10_16 fs10_17
      go_wp2_with (first | fail | (refine WL.h ?_; first | (refine wl_store (op := { dst := none, op := .store 27 (.tmp 19) (.tmp 97), type := _, pos := _, after := _, guard := none }) rfl 27 (.tmp 19) (.tmp 97) rfl r11.heap.size 0 _ rfl rfl (there_new (c := #[.int .u16 0, .int .u16 0, .int .u16 0, .int .u16 0, .int .u16 0, .int .u16 0]) (t := 27) (by simp)) hi_vec (by simp [Value.oneCell']) ?_; refine wpList_gen (fun W => Below w.heap.size w W ∧ W.heap.size = r11.heap.size + 1 ∧ W.rangeAt (w.heap.size) 0 [.int .u16 (f 0), .int .u16 (f 1), .int .u16 (f 2), .int .u16 (f 3), .int .u16 (f 4), .int .u16 (f 5), .int .u16 (f 6), .int .u16 (f 7), .int .u16 (f 8), .int .u16 (f 9), .int .u16 (f 10), .int .u16 (f 11), .int .u16 (f 12), .int .u16 (f 13), .int .u16 (f 14), .int .u16 (f 15), .int .u16 (f 16), .int .u16 (f 17)] ∧ W.rangeAt (w.heap.size + 1) 0 [.int .u16 (n 0), .int .u16 (n 1), .int .u16 (n 2), .int .u16 (n 3), .int .u16 (n 4), .int .u16 (n 5), .int .u16 (n 6), .int .u16 (n 7), .int .u16 (n 8), .int .u16 (n 9), .int .u16 (n 10), .int .u16 (n 11), .int .u16 (n 12), .int .u16 (n 13), .int .u16 (n 14), .int .u16 (n 15), .int .u16 (n 16), .int .u16 (n 17)] ∧ W.rangeAt (w.heap.size + 1 + 1) 0 [.int .u16 (a 0), .int .u16 (a 1), .int .u16 (a 2), .int .u16 (a 3), .int .u16 (a 4), .int .u16 (a 5)] ∧ W.rangeAt (B1) 0 [.int .u16 (t 0), .int .u16 (t 1), .int .u16 (t 2), .int .u16 (t 3), .int .u16 (t 4), .int .u16 (t 5), .int .u16 (t 6), .int .u16 (t 7), .int .u16 (t 8), .int .u16 (t 9), .int .u16 (t 10), .int .u16 (t 11), .int .u16 (t 12), .int .u16 (t 13), .int .u16 (t 14), .int .u16 (t 15), .int .u16 (t 16), .int .u16 (t 17)] ∧ W.rangeAt (C1) 0 [.int .u16 (s 0), .int .u16 (s 1), .int .u16 (s 2), .int .u16 (s 3), .int .u16 (s 4), .int .u16 (s 5), .int .u16 (s 6), .int .u16 (s 7), .int .u16 (s 8), .int .u16 (s 9), .int .u16 (s 10), .int .u16 (s 11), .int .u16 (s 12), .int .u16 (s 13), .int .u16 (s 14), .int .u16 (s 15), .int .u16 (s 16), .int .u16 (s 17)] ∧ W.rangeAt (r2.heap.size) 0 [.int .u16 (c 0), .int .u16 (c 1), .int .u16 (c 2), .int .u16 (c 3), .int .u16 (c 4), .int .u16 (c 5), .int .u16 (c 6), .int .u16 (c 7), .int .u16 (c 8), .int .u16 (c 9), .int .u16 (c 10), .int .u16 (c 11), .int .u16 (c 12), .int .u16 (c 13), .int .u16 (c 14), .int .u16 (c 15), .int .u16 (c 16), .int .u16 (c 17)] ∧ W.rangeAt (r4.heap.size) 0 [.int .u16 (p 0), .int .u16 (p 1), .int .u16 (p 2), .int .u16 (p 3), .int .u16 (p 4), .int .u16 (p 5), .int .u16 (p 6), .int .u16 (p 7), .int .u16 (p 8), .int .u16 (p 9), .int .u16 (p 10), .int .u16 (p 11), .int .u16 (p 12), .int .u16 (p 13), .int .u16 (p 14), .int .u16 (p 15), .int .u16 (p 16), .int .u16 (p 17)] ∧ W.rangeAt (r5.heap.size) 0 [.int .u16 (q 0), .int .u16 (q 1), .int .u16 (q 2), .int .u16 (q 3), .int .u16 (q 4), .int .u16 (q 5), .int .u16 (q 6), .int .u16 (q 7), .int .u16 (q 8), .int .u16 (q 9), .int .u16 (q 10), .int .u16 (q 11), .int .u16 (q 12), .int .u16 (q 13), .int .u16 (q 14), .int .u16 (q 15), .int .u16 (q 16), .int .u16 (q 17)] ∧ W.rangeAt (r9.heap.size) 0 [.int .u16 8192, .int .u16 0, .int .u16 0, .int .u16 0, .int .u16 0, .int .u16 0, .int .u16 0, .int .u16 0, .int .u16 8192, .int .u16 0, .int .u16 0, .int .u16 0, .int .u16 0, .int .u16 0, .int .u16 0, .int .u16 0, .int .u16 8192, .int .u16 0] ∧ W.rangeAt (r10.heap.size) 0 [.int .u16 (b 0), .int .u16 (b 1), .int .u16 (b 2), .int .u16 (b 3), .int .u16 (b 4), .int .u16 (b 5)] ∧ W.rangeAt r11.heap.size 0 [.int .u16 (b 0), .int .u16 (b 1), .int .u16 (b 2), .int .u16 (b 3), .int .u16 (b 4), .int .u16 (b 5)]) ⟨bl_cells _ _ _ _ (bl_alloc hw11 _) (by omega), size_store, range_store f11_3 (by omega), range_store f11_4 (by omega), range_store f11_5 (by omega), range_store f11_7 (by omega), range_store f11_8 (by omega), range_store f11_9 (by omega), range_store f11_12 (by omega), range_store f11_14 (by omega), range_store f11_16 (by omega), range_store f11_17 (by omega), range_here (by simp)⟩ ?_; clear f11_3 f11_4 f11_5 f11_7 f11_8 f11_9 f11_12 f11_14 f11_16 f11_17; rintro s11 ⟨hws11, hss11, fs11_3, fs11_4, fs11_5, fs11_7, fs11_8, fs11_9, fs11_12, fs11_14, fs11_16, fs11_17, fs11_19⟩; simp only [Act.put, List.setIfInBounds_toArray, List.set_cons_zero, List.set_cons_succ]) | (refine wl_load (op := { dst := some 99, op := .load 27 (.tmp 17), type := _, pos := _, after := _, guard := _ }) rfl 27 (.tmp 17) rfl (r10.heap.size) 0 rfl [.int .u16 (b 0), .int .u16 (b 1), .int .u16 (b 2), .int .u16 (b 3), .int .u16 (b 4), .int .u16 (b 5)] _ fs11_17 hu_vec rfl hi_vec ?_; simp only [Act.put, List.setIfInBounds_toArray, List.set_cons_zero, List.set_cons_succ]) | (refine wl_load (op := { dst := some 100, op := .load 27 (.tmp 19), type := _, pos := _, after := _, guard := _ }) rfl 27 (.tmp 19) rfl (r11.heap.size) 0 rfl [.int .u16 (b 0), .int .u16 (b 1), .int .u16 (b 2), .int .u16 (b 3), .int .u16 (b 4), .int .u16 (b 5)] _ fs11_19 hu_vec rfl hi_vec ?_; simp only [Act.put, List.setIfInBounds_toArray, List.set_cons_zero, List.set_cons_succ])))
      go_ret
      exact ⟨rfl, (by repeat' (first | (with_reducible exact Below.refl _ _) | (with_reducible refine bl_set ?_ _ ?_) | (with_reducible refine bl_alloc ?_ _) | (with_reducible refine bl_drew ?_) | (with_reducible refine bl_via (by with_reducible assumption) ?_) | (with_reducible assumption) | omega | (simp only []; omega) | (simp; omega)))⟩
end Go.Proofs.Ytkgpdpengfdhbaa
