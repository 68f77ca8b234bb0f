/- Contract of Command's closure (a vector divided by the time to go, component by component) over this translation. -/
import Derived.Test.YtpmocegfiniafaaKd
import Derived.Test.YtpmocegfiniafaaKe
import Derived.Test.YtpmocegfiniafaaFd
import Derived.Test.YtpmocegfiniafaaDt
import Derived.RegionTactic
import Derived.BigRegion
namespace Go.Proofs.Ytpmocegfiniafaa
set_option linter.unusedSimpArgs false
set_option linter.unusedVariables false
open Go.RowKit

theorem setCell_id {w : World} {b o : Nat} {x : Value} (h : w.cell? ⟨b, o, none⟩ = some x) : w.setCell ⟨b, o, none⟩ x = w := by
  have key : (w.setCell ⟨b, o, none⟩ x).heap = w.heap := by
    unfold World.setCell
    dsimp only
    apply Array.ext_getElem?
    intro k
    rw [Array.getElem?_modify]
    by_cases e : b = k
    · subst e
      rw [if_pos rfl]
      unfold World.cell? at h
      cases hb : w.heap[b]? with
      | none => rfl
      | some ob =>
        simp only [hb] at h
        cases ob with
        | cells c t fr =>
          simp at h
          simp only [Option.map_some]
          congr 2
          obtain ⟨hlt, he⟩ := Array.getElem?_eq_some_iff.1 h
          apply Array.ext_getElem?
          intro i
          simp only [Option.isSome_none, Bool.false_eq_true, if_false]
          rw [Array.getElem?_setIfInBounds]
          by_cases ei : o = i
          · subst ei; rw [if_pos rfl, if_pos hlt, h]
          · rw [if_neg ei]
        | _ => simp at h
    · rw [if_neg e]
  calc w.setCell ⟨b, o, none⟩ x = { w with heap := (w.setCell ⟨b, o, none⟩ x).heap } := rfl
    _ = w := by rw [key]
theorem bl_reset {n b o : Nat} {w W : World} {x y : Value} (h : Below n (w.setCell ⟨b, o, none⟩ x) W) : Below n (w.setCell ⟨b, o, none⟩ y) (W.setCell ⟨b, o, none⟩ y) := by
  refine ⟨h.os, h.tape, h.output, by have := h.size; simpa using this, fun k hk => ?_⟩
  have hb := h.block k hk
  simp only [World.setCell, Array.getElem?_modify] at hb ⊢
  by_cases e : b = k
  · rw [if_pos e] at hb ⊢
    rw [if_pos e, hb]
    cases w.heap[k]? with
    | none => rfl
    | some ob =>
      cases ob <;> simp
  · rw [if_neg e] at hb ⊢
    rw [if_neg e]; exact hb
theorem bl_far {n b o : Nat} {w W : World} {y : Value} (h : Below n w W) (hb : n ≤ b) : Below n w (W.setCell ⟨b, o, none⟩ y) := h.setCell hb y

set_option maxRecDepth 100000 in
set_option maxHeartbeats 4000000 in
theorem cdiv_t (a0 a1 a2 a3 a4 a5 t0 t1 q0 q1 q2 q3 q4 q5 : Int) (o0 o1 o2 : Bool) (bt bo : Nat) (w : World) (htb : bt < w.heap.size) (hob : bo < w.heap.size) (hto : bt ≠ bo) (hT0 : w.cell? ⟨bt, 12, none⟩ = some (.int .u16 t0)) (hT1 : w.cell? ⟨bt, 13, none⟩ = some (.int .u16 t1)) (hO : w.cell? ⟨bo, 0, none⟩ = some (.bool true)) (hOf : w.frozen? ⟨bo, 0, none⟩ = false)
    (D0 : (∀ w, Calls Try.prog 31 #[(.agg #[.int .u16 (a0), .int .u16 (a1)]), (.agg #[.int .u16 (t0), .int .u16 (t1)])] w fun e w' => e = .returned (.tuple #[(.agg #[.int .u16 (q0), .int .u16 (q1)]), .bool o0]) ∧ Below w.heap.size w w'))
    (D1 : (∀ w, Calls Try.prog 31 #[(.agg #[.int .u16 (a2), .int .u16 (a3)]), (.agg #[.int .u16 (t0), .int .u16 (t1)])] w fun e w' => e = .returned (.tuple #[(.agg #[.int .u16 (q2), .int .u16 (q3)]), .bool o1]) ∧ Below w.heap.size w w'))
    (D2 : (∀ w, Calls Try.prog 31 #[(.agg #[.int .u16 (a4), .int .u16 (a5)]), (.agg #[.int .u16 (t0), .int .u16 (t1)])] w fun e w' => e = .returned (.tuple #[(.agg #[.int .u16 (q4), .int .u16 (q5)]), .bool o2]) ∧ Below w.heap.size w w')) :
    Calls Try.prog 30 #[(.agg #[.int .u16 (a0), .int .u16 (a1), .int .u16 (a2), .int .u16 (a3), .int .u16 (a4), .int .u16 (a5)]), .pointer (some ⟨bt, 0, none⟩), .pointer (some ⟨bo, 0, none⟩)] w fun e w' => e = .returned (.agg #[.int .u16 (q0), .int .u16 (q1), .int .u16 (q2), .int .u16 (q3), .int .u16 (q4), .int .u16 (q5)]) ∧ Below w.heap.size (w.setCell ⟨bo, 0, none⟩ (.bool true)) w' := by
  have n0 : w.heap.size ≠ bo := by omega
  have n0' := Ne.symm n0
  have n1 : w.heap.size + 1 ≠ bo := by omega
  have n1' := Ne.symm n1
  have n2 : w.heap.size + 1 + 1 ≠ bo := by omega
  have n2' := Ne.symm n2
  have hto' := Ne.symm hto
  have n3 : w.heap.size ≠ bt := by omega
  have n3' := Ne.symm n3
  have n4 : w.heap.size + 1 ≠ bt := by omega
  have n4' := Ne.symm n4
  have n5 : w.heap.size + 1 + 1 ≠ bt := by omega
  have n5' := Ne.symm n5
  go_enter Try.func30, Try.ntmps30
  go_wp2_with fail
  refine wp_gen (fun W => Below w.heap.size (w.setCell ⟨bo, 0, none⟩ (.bool true)) W ∧ w.heap.size + 3 ≤ W.heap.size ∧ (W.cell? ⟨w.heap.size, 0, none⟩ = some (.int .u16 a0) ∧ W.cell? ⟨w.heap.size, 1, none⟩ = some (.int .u16 a1) ∧ W.cell? ⟨w.heap.size, 2, none⟩ = some (.int .u16 a2) ∧ W.cell? ⟨w.heap.size, 3, none⟩ = some (.int .u16 a3) ∧ W.cell? ⟨w.heap.size, 4, none⟩ = some (.int .u16 a4) ∧ W.cell? ⟨w.heap.size, 5, none⟩ = some (.int .u16 a5)) ∧ (W.cell? ⟨bt, 12, none⟩ = some (.int .u16 t0) ∧ W.cell? ⟨bt, 13, none⟩ = some (.int .u16 t1)) ∧ W.cell? ⟨bo, 0, none⟩ = some (.bool true) ∧ W.frozen? ⟨bo, 0, none⟩ = false ∧ (W.cell? ⟨w.heap.size + 1, 0, none⟩ = some (.int .u16 0) ∧ W.cell? ⟨w.heap.size + 1, 1, none⟩ = some (.int .u16 0) ∧ W.cell? ⟨w.heap.size + 1, 2, none⟩ = some (.int .u16 0) ∧ W.cell? ⟨w.heap.size + 1, 3, none⟩ = some (.int .u16 0) ∧ W.cell? ⟨w.heap.size + 1, 4, none⟩ = some (.int .u16 0) ∧ W.cell? ⟨w.heap.size + 1, 5, none⟩ = some (.int .u16 0)) ∧ (W.frozen? ⟨w.heap.size + 1, 0, none⟩ = false ∧ W.frozen? ⟨w.heap.size + 1, 1, none⟩ = false ∧ W.frozen? ⟨w.heap.size + 1, 2, none⟩ = false ∧ W.frozen? ⟨w.heap.size + 1, 3, none⟩ = false ∧ W.frozen? ⟨w.heap.size + 1, 4, none⟩ = false ∧ W.frozen? ⟨w.heap.size + 1, 5, none⟩ = false) ∧ (W.cell? ⟨w.heap.size + 1 + 1, 0, none⟩ = some (.int .u16 0) ∧ W.cell? ⟨w.heap.size + 1 + 1, 1, none⟩ = some (.int .u16 0) ∧ W.cell? ⟨w.heap.size + 1 + 1, 2, none⟩ = some (.int .u16 0) ∧ W.cell? ⟨w.heap.size + 1 + 1, 3, none⟩ = some (.int .u16 0) ∧ W.cell? ⟨w.heap.size + 1 + 1, 4, none⟩ = some (.int .u16 0) ∧ W.cell? ⟨w.heap.size + 1 + 1, 5, none⟩ = some (.int .u16 0)) ∧ (W.frozen? ⟨w.heap.size + 1 + 1, 0, none⟩ = false ∧ W.frozen? ⟨w.heap.size + 1 + 1, 1, none⟩ = false ∧ W.frozen? ⟨w.heap.size + 1 + 1, 2, none⟩ = false ∧ W.frozen? ⟨w.heap.size + 1 + 1, 3, none⟩ = false ∧ W.frozen? ⟨w.heap.size + 1 + 1, 4, none⟩ = false ∧ W.frozen? ⟨w.heap.size + 1 + 1, 5, none⟩ = false)) ⟨by rw [setCell_id hO]; exact (by repeat' (first | (with_reducible exact Below.refl _ _) | (with_reducible refine bl_set ?_ _ ?_) | (with_reducible refine bl_alloc ?_ _) | (with_reducible refine bl_drew ?_) | (with_reducible refine bl_via (by with_reducible assumption) ?_) | (with_reducible assumption) | omega | (simp only []; omega) | (simp; omega))), by simp, ⟨by go_simp, by go_simp, by go_simp, by go_simp, by go_simp, by go_simp⟩, ⟨(World.cell?_alloc_lt _ _ _ (by simp only [World.size_alloc]; omega)).trans ((World.cell?_alloc_lt _ _ _ (by simp only [World.size_alloc]; omega)).trans ((World.cell?_alloc_lt _ _ _ (by omega)).trans hT0)), (World.cell?_alloc_lt _ _ _ (by simp only [World.size_alloc]; omega)).trans ((World.cell?_alloc_lt _ _ _ (by simp only [World.size_alloc]; omega)).trans ((World.cell?_alloc_lt _ _ _ (by omega)).trans hT1))⟩, (World.cell?_alloc_lt _ _ _ (by simp only [World.size_alloc]; omega)).trans ((World.cell?_alloc_lt _ _ _ (by simp only [World.size_alloc]; omega)).trans ((World.cell?_alloc_lt _ _ _ (by omega)).trans hO)), ((bl_alloc (bl_alloc (bl_alloc (Below.refl _ _) _) _) _).frozen (p := ⟨bo, 0, none⟩) hob).trans hOf, ⟨by go_simp, by go_simp, by go_simp, by go_simp, by go_simp, by go_simp⟩, ⟨by go_simp, by go_simp, by go_simp, by go_simp, by go_simp, by go_simp⟩, ⟨by go_simp, by go_simp, by go_simp, by go_simp, by go_simp, by go_simp⟩, ⟨by go_simp, by go_simp, by go_simp, by go_simp, by go_simp, by go_simp⟩⟩ ?_
  rintro W0 ⟨hb0, hz0, ⟨ha0_0, ha0_1, ha0_2, ha0_3, ha0_4, ha0_5⟩, ⟨ht0_0, ht0_1⟩, ho0, hof0, ⟨hr0_0, hr0_1, hr0_2, hr0_3, hr0_4, hr0_5⟩, ⟨hrf0_0, hrf0_1, hrf0_2, hrf0_3, hrf0_4, hrf0_5⟩, ⟨hq0_0, hq0_1, hq0_2, hq0_3, hq0_4, hq0_5⟩, ⟨hqf0_0, hqf0_1, hqf0_2, hqf0_3, hqf0_4, hqf0_5⟩⟩
  refine wp_loop_rounds 4 ?_
  have l0_0 : w.heap.size < W0.heap.size := by omega
  have l0_1 : w.heap.size + 1 < W0.heap.size := by omega
  have l0_2 : w.heap.size + 1 + 1 < W0.heap.size := by omega
  have l0_3 : bt < W0.heap.size := by omega
  have l0_4 : bo < W0.heap.size := by omega
  try rw [rounds_succ]
  go_wp2_with fail
  have hecr1 := @Ext.cell2
  refine wp_region_floatl 9 8 _ _ _ _ _ (.cells #[.int .u16 0, .int .u16 0] 25) (by kernel_rfl) rfl rfl (by kernel_rfl) (by kernel_rfl) rfl rfl rfl rfl (fun _ _ => by simp [go_sem]) (fun _ _ d _ _ h => by cases d <;> exact h) (by kernel_rfl) (by kernel_rfl) rfl ?_
  apply Exists.intro
  refine ⟨fun W' => ?_, ?_⟩
  · simp only [List.take_succ_cons, List.take_zero]
    repeat (first | go_big_quiet_skip | (go_big_quiet_want; go_big_quiet_op; first | go_big_quiet_on | (go_big_quiet_call ((first | fail | (go_at_call 31; with_reducible exact ext_call (D0 _)))))))
    exact wpQuiet_nil rfl
  clear hecr1
  simp only [List.drop_succ_cons, List.drop_zero, Act.put, List.setIfInBounds_toArray, List.set_cons_zero, List.set_cons_succ]
  intro B1 r1 hbr1 hBr1 hDr1 hEr1
  have hGr1_0 := block_cell hEr1 0
  have hGr1_1 := block_cell hEr1 1
  have hFr1 := block_free hEr1
  simp only [List.getElem?_toArray, List.getElem?_cons_zero, List.getElem?_cons_succ] at hGr1_0 hGr1_1
  clear hEr1
  try simp only [World.size_alloc, World.size_setCell, World.size_drew] at hBr1
  obtain ⟨hcr1, hfr1⟩ := bcell hbr1
  have hzr1 := hbr1.size
  try simp only [World.size_alloc, World.size_setCell, World.size_drew] at hzr1
  have hlr1w0 : w.heap.size < r1.heap.size := by omega
  have hlr1w1 : w.heap.size + 1 < r1.heap.size := by omega
  have hlr1w2 : w.heap.size + 1 + 1 < r1.heap.size := by omega
  have hlr1bt : bt < r1.heap.size := by omega
  have hlr1bo : bo < r1.heap.size := by omega
  have e1_0 : B1 ≠ bo := by omega
  have e1_0' := Ne.symm e1_0
  have e1_1 : B1 ≠ w.heap.size + 1 + 1 := by omega
  have e1_1' := Ne.symm e1_1
  have e1_2 : B1 ≠ w.heap.size := by omega
  have e1_2' := Ne.symm e1_2
  have e1_3 : B1 ≠ w.heap.size + 1 := by omega
  have e1_3' := Ne.symm e1_3
  have e1_4 : B1 ≠ bt := by omega
  have e1_4' := Ne.symm e1_4
  go_wp2_with fail
  go_region
  go_wp2_with fail
  refine wp_gen (fun W => Below w.heap.size (w.setCell ⟨bo, 0, none⟩ (.bool true)) W ∧ w.heap.size + 3 ≤ W.heap.size ∧ (W.cell? ⟨w.heap.size, 0, none⟩ = some (.int .u16 a0) ∧ W.cell? ⟨w.heap.size, 1, none⟩ = some (.int .u16 a1) ∧ W.cell? ⟨w.heap.size, 2, none⟩ = some (.int .u16 a2) ∧ W.cell? ⟨w.heap.size, 3, none⟩ = some (.int .u16 a3) ∧ W.cell? ⟨w.heap.size, 4, none⟩ = some (.int .u16 a4) ∧ W.cell? ⟨w.heap.size, 5, none⟩ = some (.int .u16 a5)) ∧ (W.cell? ⟨bt, 12, none⟩ = some (.int .u16 t0) ∧ W.cell? ⟨bt, 13, none⟩ = some (.int .u16 t1)) ∧ W.cell? ⟨bo, 0, none⟩ = some (.bool true) ∧ W.frozen? ⟨bo, 0, none⟩ = false ∧ (W.cell? ⟨w.heap.size + 1, 0, none⟩ = some (.int .u16 0) ∧ W.cell? ⟨w.heap.size + 1, 1, none⟩ = some (.int .u16 0) ∧ W.cell? ⟨w.heap.size + 1, 2, none⟩ = some (.int .u16 0) ∧ W.cell? ⟨w.heap.size + 1, 3, none⟩ = some (.int .u16 0) ∧ W.cell? ⟨w.heap.size + 1, 4, none⟩ = some (.int .u16 0) ∧ W.cell? ⟨w.heap.size + 1, 5, none⟩ = some (.int .u16 0)) ∧ (W.frozen? ⟨w.heap.size + 1, 0, none⟩ = false ∧ W.frozen? ⟨w.heap.size + 1, 1, none⟩ = false ∧ W.frozen? ⟨w.heap.size + 1, 2, none⟩ = false ∧ W.frozen? ⟨w.heap.size + 1, 3, none⟩ = false ∧ W.frozen? ⟨w.heap.size + 1, 4, none⟩ = false ∧ W.frozen? ⟨w.heap.size + 1, 5, none⟩ = false) ∧ (W.cell? ⟨w.heap.size + 1 + 1, 0, none⟩ = some (.int .u16 q0) ∧ W.cell? ⟨w.heap.size + 1 + 1, 1, none⟩ = some (.int .u16 q1) ∧ W.cell? ⟨w.heap.size + 1 + 1, 2, none⟩ = some (.int .u16 0) ∧ W.cell? ⟨w.heap.size + 1 + 1, 3, none⟩ = some (.int .u16 0) ∧ W.cell? ⟨w.heap.size + 1 + 1, 4, none⟩ = some (.int .u16 0) ∧ W.cell? ⟨w.heap.size + 1 + 1, 5, none⟩ = some (.int .u16 0)) ∧ (W.frozen? ⟨w.heap.size + 1 + 1, 0, none⟩ = false ∧ W.frozen? ⟨w.heap.size + 1 + 1, 1, none⟩ = false ∧ W.frozen? ⟨w.heap.size + 1 + 1, 2, none⟩ = false ∧ W.frozen? ⟨w.heap.size + 1 + 1, 3, none⟩ = false ∧ W.frozen? ⟨w.heap.size + 1 + 1, 4, none⟩ = false ∧ W.frozen? ⟨w.heap.size + 1 + 1, 5, none⟩ = false)) ⟨(bl_reset (x := .bool true) (bl_far (bl_far (bl_far (bl_far (hb0.trans (hbr1.mono (by omega))) (by omega)) (by omega)) (by omega)) (by omega))).drew, by (try simp only [World.size_alloc, World.size_setCell, World.size_drew]); omega, ⟨by go_simp, by go_simp, by go_simp, by go_simp, by go_simp, by go_simp⟩, ⟨by go_simp, by go_simp⟩, by go_simp, by go_simp, ⟨by go_simp, by go_simp, by go_simp, by go_simp, by go_simp, by go_simp⟩, ⟨by go_simp, by go_simp, by go_simp, by go_simp, by go_simp, by go_simp⟩, ⟨by go_simp, by go_simp, by go_simp, by go_simp, by go_simp, by go_simp⟩, ⟨by go_simp, by go_simp, by go_simp, by go_simp, by go_simp, by go_simp⟩⟩ ?_
  clear hb0 hz0 ht0_0 ht0_1 ho0 hof0 ha0_0 ha0_1 ha0_2 ha0_3 ha0_4 ha0_5 hr0_0 hr0_1 hr0_2 hr0_3 hr0_4 hr0_5 hrf0_0 hrf0_1 hrf0_2 hrf0_3 hrf0_4 hrf0_5 hq0_0 hq0_1 hq0_2 hq0_3 hq0_4 hq0_5 hqf0_0 hqf0_1 hqf0_2 hqf0_3 hqf0_4 hqf0_5 hcr1 hfr1 hbr1
  rintro W1 ⟨hb1, hz1, ⟨ha1_0, ha1_1, ha1_2, ha1_3, ha1_4, ha1_5⟩, ⟨ht1_0, ht1_1⟩, ho1, hof1, ⟨hr1_0, hr1_1, hr1_2, hr1_3, hr1_4, hr1_5⟩, ⟨hrf1_0, hrf1_1, hrf1_2, hrf1_3, hrf1_4, hrf1_5⟩, ⟨hq1_0, hq1_1, hq1_2, hq1_3, hq1_4, hq1_5⟩, ⟨hqf1_0, hqf1_1, hqf1_2, hqf1_3, hqf1_4, hqf1_5⟩⟩
  have l1_0 : w.heap.size < W1.heap.size := by omega
  have l1_1 : w.heap.size + 1 < W1.heap.size := by omega
  have l1_2 : w.heap.size + 1 + 1 < W1.heap.size := by omega
  have l1_3 : bt < W1.heap.size := by omega
  have l1_4 : bo < W1.heap.size := by omega
  try rw [rounds_succ]
  go_wp2_with fail
  have hecr2 := @Ext.cell2
  refine wp_region_floatl 9 8 _ _ _ _ _ (.cells #[.int .u16 0, .int .u16 0] 25) (by kernel_rfl) rfl rfl (by kernel_rfl) (by kernel_rfl) rfl rfl rfl rfl (fun _ _ => by simp [go_sem]) (fun _ _ d _ _ h => by cases d <;> exact h) (by kernel_rfl) (by kernel_rfl) rfl ?_
  apply Exists.intro
  refine ⟨fun W' => ?_, ?_⟩
  · simp only [List.take_succ_cons, List.take_zero]
    repeat (first | go_big_quiet_skip | (go_big_quiet_want; go_big_quiet_op; first | go_big_quiet_on | (go_big_quiet_call ((first | fail | (go_at_call 31; with_reducible exact ext_call (D1 _)))))))
    exact wpQuiet_nil rfl
  clear hecr2
  simp only [List.drop_succ_cons, List.drop_zero, Act.put, List.setIfInBounds_toArray, List.set_cons_zero, List.set_cons_succ]
  intro B2 r2 hbr2 hBr2 hDr2 hEr2
  have hGr2_0 := block_cell hEr2 0
  have hGr2_1 := block_cell hEr2 1
  have hFr2 := block_free hEr2
  simp only [List.getElem?_toArray, List.getElem?_cons_zero, List.getElem?_cons_succ] at hGr2_0 hGr2_1
  clear hEr2
  try simp only [World.size_alloc, World.size_setCell, World.size_drew] at hBr2
  obtain ⟨hcr2, hfr2⟩ := bcell hbr2
  have hzr2 := hbr2.size
  try simp only [World.size_alloc, World.size_setCell, World.size_drew] at hzr2
  have hlr2w0 : w.heap.size < r2.heap.size := by omega
  have hlr2w1 : w.heap.size + 1 < r2.heap.size := by omega
  have hlr2w2 : w.heap.size + 1 + 1 < r2.heap.size := by omega
  have hlr2bt : bt < r2.heap.size := by omega
  have hlr2bo : bo < r2.heap.size := by omega
  have e2_0 : B2 ≠ bo := by omega
  have e2_0' := Ne.symm e2_0
  have e2_1 : B2 ≠ w.heap.size + 1 + 1 := by omega
  have e2_1' := Ne.symm e2_1
  have e2_2 : B2 ≠ w.heap.size := by omega
  have e2_2' := Ne.symm e2_2
  have e2_3 : B2 ≠ w.heap.size + 1 := by omega
  have e2_3' := Ne.symm e2_3
  have e2_4 : B2 ≠ bt := by omega
  have e2_4' := Ne.symm e2_4
  go_wp2_with fail
  go_region
  go_wp2_with fail
  refine wp_gen (fun W => Below w.heap.size (w.setCell ⟨bo, 0, none⟩ (.bool true)) W ∧ w.heap.size + 3 ≤ W.heap.size ∧ (W.cell? ⟨w.heap.size, 0, none⟩ = some (.int .u16 a0) ∧ W.cell? ⟨w.heap.size, 1, none⟩ = some (.int .u16 a1) ∧ W.cell? ⟨w.heap.size, 2, none⟩ = some (.int .u16 a2) ∧ W.cell? ⟨w.heap.size, 3, none⟩ = some (.int .u16 a3) ∧ W.cell? ⟨w.heap.size, 4, none⟩ = some (.int .u16 a4) ∧ W.cell? ⟨w.heap.size, 5, none⟩ = some (.int .u16 a5)) ∧ (W.cell? ⟨bt, 12, none⟩ = some (.int .u16 t0) ∧ W.cell? ⟨bt, 13, none⟩ = some (.int .u16 t1)) ∧ W.cell? ⟨bo, 0, none⟩ = some (.bool true) ∧ W.frozen? ⟨bo, 0, none⟩ = false ∧ (W.cell? ⟨w.heap.size + 1, 0, none⟩ = some (.int .u16 0) ∧ W.cell? ⟨w.heap.size + 1, 1, none⟩ = some (.int .u16 0) ∧ W.cell? ⟨w.heap.size + 1, 2, none⟩ = some (.int .u16 0) ∧ W.cell? ⟨w.heap.size + 1, 3, none⟩ = some (.int .u16 0) ∧ W.cell? ⟨w.heap.size + 1, 4, none⟩ = some (.int .u16 0) ∧ W.cell? ⟨w.heap.size + 1, 5, none⟩ = some (.int .u16 0)) ∧ (W.frozen? ⟨w.heap.size + 1, 0, none⟩ = false ∧ W.frozen? ⟨w.heap.size + 1, 1, none⟩ = false ∧ W.frozen? ⟨w.heap.size + 1, 2, none⟩ = false ∧ W.frozen? ⟨w.heap.size + 1, 3, none⟩ = false ∧ W.frozen? ⟨w.heap.size + 1, 4, none⟩ = false ∧ W.frozen? ⟨w.heap.size + 1, 5, none⟩ = false) ∧ (W.cell? ⟨w.heap.size + 1 + 1, 0, none⟩ = some (.int .u16 q0) ∧ W.cell? ⟨w.heap.size + 1 + 1, 1, none⟩ = some (.int .u16 q1) ∧ W.cell? ⟨w.heap.size + 1 + 1, 2, none⟩ = some (.int .u16 q2) ∧ W.cell? ⟨w.heap.size + 1 + 1, 3, none⟩ = some (.int .u16 q3) ∧ W.cell? ⟨w.heap.size + 1 + 1, 4, none⟩ = some (.int .u16 0) ∧ W.cell? ⟨w.heap.size + 1 + 1, 5, none⟩ = some (.int .u16 0)) ∧ (W.frozen? ⟨w.heap.size + 1 + 1, 0, none⟩ = false ∧ W.frozen? ⟨w.heap.size + 1 + 1, 1, none⟩ = false ∧ W.frozen? ⟨w.heap.size + 1 + 1, 2, none⟩ = false ∧ W.frozen? ⟨w.heap.size + 1 + 1, 3, none⟩ = false ∧ W.frozen? ⟨w.heap.size + 1 + 1, 4, none⟩ = false ∧ W.frozen? ⟨w.heap.size + 1 + 1, 5, none⟩ = false)) ⟨(bl_reset (x := .bool true) (bl_far (bl_far (bl_far (bl_far (hb1.trans (hbr2.mono (by omega))) (by omega)) (by omega)) (by omega)) (by omega))).drew, by (try simp only [World.size_alloc, World.size_setCell, World.size_drew]); omega, ⟨by go_simp, by go_simp, by go_simp, by go_simp, by go_simp, by go_simp⟩, ⟨by go_simp, by go_simp⟩, by go_simp, by go_simp, ⟨by go_simp, by go_simp, by go_simp, by go_simp, by go_simp, by go_simp⟩, ⟨by go_simp, by go_simp, by go_simp, by go_simp, by go_simp, by go_simp⟩, ⟨by go_simp, by go_simp, by go_simp, by go_simp, by go_simp, by go_simp⟩, ⟨by go_simp, by go_simp, by go_simp, by go_simp, by go_simp, by go_simp⟩⟩ ?_
  clear hb1 hz1 ht1_0 ht1_1 ho1 hof1 ha1_0 ha1_1 ha1_2 ha1_3 ha1_4 ha1_5 hr1_0 hr1_1 hr1_2 hr1_3 hr1_4 hr1_5 hrf1_0 hrf1_1 hrf1_2 hrf1_3 hrf1_4 hrf1_5 hq1_0 hq1_1 hq1_2 hq1_3 hq1_4 hq1_5 hqf1_0 hqf1_1 hqf1_2 hqf1_3 hqf1_4 hqf1_5 hcr2 hfr2 hbr2
  rintro W2 ⟨hb2, hz2, ⟨ha2_0, ha2_1, ha2_2, ha2_3, ha2_4, ha2_5⟩, ⟨ht2_0, ht2_1⟩, ho2, hof2, ⟨hr2_0, hr2_1, hr2_2, hr2_3, hr2_4, hr2_5⟩, ⟨hrf2_0, hrf2_1, hrf2_2, hrf2_3, hrf2_4, hrf2_5⟩, ⟨hq2_0, hq2_1, hq2_2, hq2_3, hq2_4, hq2_5⟩, ⟨hqf2_0, hqf2_1, hqf2_2, hqf2_3, hqf2_4, hqf2_5⟩⟩
  have l2_0 : w.heap.size < W2.heap.size := by omega
  have l2_1 : w.heap.size + 1 < W2.heap.size := by omega
  have l2_2 : w.heap.size + 1 + 1 < W2.heap.size := by omega
  have l2_3 : bt < W2.heap.size := by omega
  have l2_4 : bo < W2.heap.size := by omega
  try rw [rounds_succ]
  go_wp2_with fail
  have hecr3 := @Ext.cell2
  refine wp_region_floatl 9 8 _ _ _ _ _ (.cells #[.int .u16 0, .int .u16 0] 25) (by kernel_rfl) rfl rfl (by kernel_rfl) (by kernel_rfl) rfl rfl rfl rfl (fun _ _ => by simp [go_sem]) (fun _ _ d _ _ h => by cases d <;> exact h) (by kernel_rfl) (by kernel_rfl) rfl ?_
  apply Exists.intro
  refine ⟨fun W' => ?_, ?_⟩
  · simp only [List.take_succ_cons, List.take_zero]
    repeat (first | go_big_quiet_skip | (go_big_quiet_want; go_big_quiet_op; first | go_big_quiet_on | (go_big_quiet_call ((first | fail | (go_at_call 31; with_reducible exact ext_call (D2 _)))))))
    exact wpQuiet_nil rfl
  clear hecr3
  simp only [List.drop_succ_cons, List.drop_zero, Act.put, List.setIfInBounds_toArray, List.set_cons_zero, List.set_cons_succ]
  intro B3 r3 hbr3 hBr3 hDr3 hEr3
  have hGr3_0 := block_cell hEr3 0
  have hGr3_1 := block_cell hEr3 1
  have hFr3 := block_free hEr3
  simp only [List.getElem?_toArray, List.getElem?_cons_zero, List.getElem?_cons_succ] at hGr3_0 hGr3_1
  clear hEr3
  try simp only [World.size_alloc, World.size_setCell, World.size_drew] at hBr3
  obtain ⟨hcr3, hfr3⟩ := bcell hbr3
  have hzr3 := hbr3.size
  try simp only [World.size_alloc, World.size_setCell, World.size_drew] at hzr3
  have hlr3w0 : w.heap.size < r3.heap.size := by omega
  have hlr3w1 : w.heap.size + 1 < r3.heap.size := by omega
  have hlr3w2 : w.heap.size + 1 + 1 < r3.heap.size := by omega
  have hlr3bt : bt < r3.heap.size := by omega
  have hlr3bo : bo < r3.heap.size := by omega
  have e3_0 : B3 ≠ bo := by omega
  have e3_0' := Ne.symm e3_0
  have e3_1 : B3 ≠ w.heap.size + 1 + 1 := by omega
  have e3_1' := Ne.symm e3_1
  have e3_2 : B3 ≠ w.heap.size := by omega
  have e3_2' := Ne.symm e3_2
  have e3_3 : B3 ≠ w.heap.size + 1 := by omega
  have e3_3' := Ne.symm e3_3
  have e3_4 : B3 ≠ bt := by omega
  have e3_4' := Ne.symm e3_4
  go_wp2_with fail
  go_region
  go_wp2_with fail
  refine wp_gen (fun W => Below w.heap.size (w.setCell ⟨bo, 0, none⟩ (.bool true)) W ∧ w.heap.size + 3 ≤ W.heap.size ∧ (W.cell? ⟨w.heap.size, 0, none⟩ = some (.int .u16 a0) ∧ W.cell? ⟨w.heap.size, 1, none⟩ = some (.int .u16 a1) ∧ W.cell? ⟨w.heap.size, 2, none⟩ = some (.int .u16 a2) ∧ W.cell? ⟨w.heap.size, 3, none⟩ = some (.int .u16 a3) ∧ W.cell? ⟨w.heap.size, 4, none⟩ = some (.int .u16 a4) ∧ W.cell? ⟨w.heap.size, 5, none⟩ = some (.int .u16 a5)) ∧ (W.cell? ⟨bt, 12, none⟩ = some (.int .u16 t0) ∧ W.cell? ⟨bt, 13, none⟩ = some (.int .u16 t1)) ∧ W.cell? ⟨bo, 0, none⟩ = some (.bool true) ∧ W.frozen? ⟨bo, 0, none⟩ = false ∧ (W.cell? ⟨w.heap.size + 1, 0, none⟩ = some (.int .u16 0) ∧ W.cell? ⟨w.heap.size + 1, 1, none⟩ = some (.int .u16 0) ∧ W.cell? ⟨w.heap.size + 1, 2, none⟩ = some (.int .u16 0) ∧ W.cell? ⟨w.heap.size + 1, 3, none⟩ = some (.int .u16 0) ∧ W.cell? ⟨w.heap.size + 1, 4, none⟩ = some (.int .u16 0) ∧ W.cell? ⟨w.heap.size + 1, 5, none⟩ = some (.int .u16 0)) ∧ (W.frozen? ⟨w.heap.size + 1, 0, none⟩ = false ∧ W.frozen? ⟨w.heap.size + 1, 1, none⟩ = false ∧ W.frozen? ⟨w.heap.size + 1, 2, none⟩ = false ∧ W.frozen? ⟨w.heap.size + 1, 3, none⟩ = false ∧ W.frozen? ⟨w.heap.size + 1, 4, none⟩ = false ∧ W.frozen? ⟨w.heap.size + 1, 5, none⟩ = false) ∧ (W.cell? ⟨w.heap.size + 1 + 1, 0, none⟩ = some (.int .u16 q0) ∧ W.cell? ⟨w.heap.size + 1 + 1, 1, none⟩ = some (.int .u16 q1) ∧ W.cell? ⟨w.heap.size + 1 + 1, 2, none⟩ = some (.int .u16 q2) ∧ W.cell? ⟨w.heap.size + 1 + 1, 3, none⟩ = some (.int .u16 q3) ∧ W.cell? ⟨w.heap.size + 1 + 1, 4, none⟩ = some (.int .u16 q4) ∧ W.cell? ⟨w.heap.size + 1 + 1, 5, none⟩ = some (.int .u16 q5)) ∧ (W.frozen? ⟨w.heap.size + 1 + 1, 0, none⟩ = false ∧ W.frozen? ⟨w.heap.size + 1 + 1, 1, none⟩ = false ∧ W.frozen? ⟨w.heap.size + 1 + 1, 2, none⟩ = false ∧ W.frozen? ⟨w.heap.size + 1 + 1, 3, none⟩ = false ∧ W.frozen? ⟨w.heap.size + 1 + 1, 4, none⟩ = false ∧ W.frozen? ⟨w.heap.size + 1 + 1, 5, none⟩ = false)) ⟨(bl_reset (x := .bool true) (bl_far (bl_far (bl_far (bl_far (hb2.trans (hbr3.mono (by omega))) (by omega)) (by omega)) (by omega)) (by omega))).drew, by (try simp only [World.size_alloc, World.size_setCell, World.size_drew]); omega, ⟨by go_simp, by go_simp, by go_simp, by go_simp, by go_simp, by go_simp⟩, ⟨by go_simp, by go_simp⟩, by go_simp, by go_simp, ⟨by go_simp, by go_simp, by go_simp, by go_simp, by go_simp, by go_simp⟩, ⟨by go_simp, by go_simp, by go_simp, by go_simp, by go_simp, by go_simp⟩, ⟨by go_simp, by go_simp, by go_simp, by go_simp, by go_simp, by go_simp⟩, ⟨by go_simp, by go_simp, by go_simp, by go_simp, by go_simp, by go_simp⟩⟩ ?_
  clear hb2 hz2 ht2_0 ht2_1 ho2 hof2 ha2_0 ha2_1 ha2_2 ha2_3 ha2_4 ha2_5 hr2_0 hr2_1 hr2_2 hr2_3 hr2_4 hr2_5 hrf2_0 hrf2_1 hrf2_2 hrf2_3 hrf2_4 hrf2_5 hq2_0 hq2_1 hq2_2 hq2_3 hq2_4 hq2_5 hqf2_0 hqf2_1 hqf2_2 hqf2_3 hqf2_4 hqf2_5 hcr3 hfr3 hbr3
  rintro W3 ⟨hb3, hz3, ⟨ha3_0, ha3_1, ha3_2, ha3_3, ha3_4, ha3_5⟩, ⟨ht3_0, ht3_1⟩, ho3, hof3, ⟨hr3_0, hr3_1, hr3_2, hr3_3, hr3_4, hr3_5⟩, ⟨hrf3_0, hrf3_1, hrf3_2, hrf3_3, hrf3_4, hrf3_5⟩, ⟨hq3_0, hq3_1, hq3_2, hq3_3, hq3_4, hq3_5⟩, ⟨hqf3_0, hqf3_1, hqf3_2, hqf3_3, hqf3_4, hqf3_5⟩⟩
  try rw [rounds_succ]
  go_wp2
  refine bodyPost_ret (v := (.agg #[.int .u16 (q0), .int .u16 (q1), .int .u16 (q2), .int .u16 (q3), .int .u16 (q4), .int .u16 (q5)])) (by simp [results, Try.results30, go_sem, *]) rfl ⟨rfl, ?_⟩
  exact bl_far (bl_far (bl_far (bl_far (bl_far (bl_far hb3 (by omega)) (by omega)) (by omega)) (by omega)) (by omega)) (by omega)

set_option maxRecDepth 100000 in
set_option maxHeartbeats 4000000 in
theorem cdiv_0 (a0 a1 a2 a3 a4 a5 t0 t1 q0 q1 q2 q3 q4 q5 : Int) (o0 o1 o2 : Bool) (bt bo : Nat) (w : World) (htb : bt < w.heap.size) (hob : bo < w.heap.size) (hto : bt ≠ bo) (hT0 : w.cell? ⟨bt, 12, none⟩ = some (.int .u16 t0)) (hT1 : w.cell? ⟨bt, 13, none⟩ = some (.int .u16 t1)) (hO : w.cell? ⟨bo, 0, none⟩ = some (.bool false)) (hOf : w.frozen? ⟨bo, 0, none⟩ = false)
    (D0 : (∀ w, Calls Try.prog 31 #[(.agg #[.int .u16 (a0), .int .u16 (a1)]), (.agg #[.int .u16 (t0), .int .u16 (t1)])] w fun e w' => e = .returned (.tuple #[(.agg #[.int .u16 (q0), .int .u16 (q1)]), .bool true]) ∧ Below w.heap.size w w'))
    (D1 : (∀ w, Calls Try.prog 31 #[(.agg #[.int .u16 (a2), .int .u16 (a3)]), (.agg #[.int .u16 (t0), .int .u16 (t1)])] w fun e w' => e = .returned (.tuple #[(.agg #[.int .u16 (q2), .int .u16 (q3)]), .bool o1]) ∧ Below w.heap.size w w'))
    (D2 : (∀ w, Calls Try.prog 31 #[(.agg #[.int .u16 (a4), .int .u16 (a5)]), (.agg #[.int .u16 (t0), .int .u16 (t1)])] w fun e w' => e = .returned (.tuple #[(.agg #[.int .u16 (q4), .int .u16 (q5)]), .bool o2]) ∧ Below w.heap.size w w')) :
    Calls Try.prog 30 #[(.agg #[.int .u16 (a0), .int .u16 (a1), .int .u16 (a2), .int .u16 (a3), .int .u16 (a4), .int .u16 (a5)]), .pointer (some ⟨bt, 0, none⟩), .pointer (some ⟨bo, 0, none⟩)] w fun e w' => e = .returned (.agg #[.int .u16 (q0), .int .u16 (q1), .int .u16 (q2), .int .u16 (q3), .int .u16 (q4), .int .u16 (q5)]) ∧ Below w.heap.size (w.setCell ⟨bo, 0, none⟩ (.bool true)) w' := by
  have n0 : w.heap.size ≠ bo := by omega
  have n0' := Ne.symm n0
  have n1 : w.heap.size + 1 ≠ bo := by omega
  have n1' := Ne.symm n1
  have n2 : w.heap.size + 1 + 1 ≠ bo := by omega
  have n2' := Ne.symm n2
  have hto' := Ne.symm hto
  have n3 : w.heap.size ≠ bt := by omega
  have n3' := Ne.symm n3
  have n4 : w.heap.size + 1 ≠ bt := by omega
  have n4' := Ne.symm n4
  have n5 : w.heap.size + 1 + 1 ≠ bt := by omega
  have n5' := Ne.symm n5
  go_enter Try.func30, Try.ntmps30
  go_wp2_with fail
  refine wp_gen (fun W => Below w.heap.size (w.setCell ⟨bo, 0, none⟩ (.bool false)) W ∧ w.heap.size + 3 ≤ W.heap.size ∧ (W.cell? ⟨w.heap.size, 0, none⟩ = some (.int .u16 a0) ∧ W.cell? ⟨w.heap.size, 1, none⟩ = some (.int .u16 a1) ∧ W.cell? ⟨w.heap.size, 2, none⟩ = some (.int .u16 a2) ∧ W.cell? ⟨w.heap.size, 3, none⟩ = some (.int .u16 a3) ∧ W.cell? ⟨w.heap.size, 4, none⟩ = some (.int .u16 a4) ∧ W.cell? ⟨w.heap.size, 5, none⟩ = some (.int .u16 a5)) ∧ (W.cell? ⟨bt, 12, none⟩ = some (.int .u16 t0) ∧ W.cell? ⟨bt, 13, none⟩ = some (.int .u16 t1)) ∧ W.cell? ⟨bo, 0, none⟩ = some (.bool false) ∧ W.frozen? ⟨bo, 0, none⟩ = false ∧ (W.cell? ⟨w.heap.size + 1, 0, none⟩ = some (.int .u16 0) ∧ W.cell? ⟨w.heap.size + 1, 1, none⟩ = some (.int .u16 0) ∧ W.cell? ⟨w.heap.size + 1, 2, none⟩ = some (.int .u16 0) ∧ W.cell? ⟨w.heap.size + 1, 3, none⟩ = some (.int .u16 0) ∧ W.cell? ⟨w.heap.size + 1, 4, none⟩ = some (.int .u16 0) ∧ W.cell? ⟨w.heap.size + 1, 5, none⟩ = some (.int .u16 0)) ∧ (W.frozen? ⟨w.heap.size + 1, 0, none⟩ = false ∧ W.frozen? ⟨w.heap.size + 1, 1, none⟩ = false ∧ W.frozen? ⟨w.heap.size + 1, 2, none⟩ = false ∧ W.frozen? ⟨w.heap.size + 1, 3, none⟩ = false ∧ W.frozen? ⟨w.heap.size + 1, 4, none⟩ = false ∧ W.frozen? ⟨w.heap.size + 1, 5, none⟩ = false) ∧ (W.cell? ⟨w.heap.size + 1 + 1, 0, none⟩ = some (.int .u16 0) ∧ W.cell? ⟨w.heap.size + 1 + 1, 1, none⟩ = some (.int .u16 0) ∧ W.cell? ⟨w.heap.size + 1 + 1, 2, none⟩ = some (.int .u16 0) ∧ W.cell? ⟨w.heap.size + 1 + 1, 3, none⟩ = some (.int .u16 0) ∧ W.cell? ⟨w.heap.size + 1 + 1, 4, none⟩ = some (.int .u16 0) ∧ W.cell? ⟨w.heap.size + 1 + 1, 5, none⟩ = some (.int .u16 0)) ∧ (W.frozen? ⟨w.heap.size + 1 + 1, 0, none⟩ = false ∧ W.frozen? ⟨w.heap.size + 1 + 1, 1, none⟩ = false ∧ W.frozen? ⟨w.heap.size + 1 + 1, 2, none⟩ = false ∧ W.frozen? ⟨w.heap.size + 1 + 1, 3, none⟩ = false ∧ W.frozen? ⟨w.heap.size + 1 + 1, 4, none⟩ = false ∧ W.frozen? ⟨w.heap.size + 1 + 1, 5, none⟩ = false)) ⟨by rw [setCell_id hO]; exact (by repeat' (first | (with_reducible exact Below.refl _ _) | (with_reducible refine bl_set ?_ _ ?_) | (with_reducible refine bl_alloc ?_ _) | (with_reducible refine bl_drew ?_) | (with_reducible refine bl_via (by with_reducible assumption) ?_) | (with_reducible assumption) | omega | (simp only []; omega) | (simp; omega))), by simp, ⟨by go_simp, by go_simp, by go_simp, by go_simp, by go_simp, by go_simp⟩, ⟨(World.cell?_alloc_lt _ _ _ (by simp only [World.size_alloc]; omega)).trans ((World.cell?_alloc_lt _ _ _ (by simp only [World.size_alloc]; omega)).trans ((World.cell?_alloc_lt _ _ _ (by omega)).trans hT0)), (World.cell?_alloc_lt _ _ _ (by simp only [World.size_alloc]; omega)).trans ((World.cell?_alloc_lt _ _ _ (by simp only [World.size_alloc]; omega)).trans ((World.cell?_alloc_lt _ _ _ (by omega)).trans hT1))⟩, (World.cell?_alloc_lt _ _ _ (by simp only [World.size_alloc]; omega)).trans ((World.cell?_alloc_lt _ _ _ (by simp only [World.size_alloc]; omega)).trans ((World.cell?_alloc_lt _ _ _ (by omega)).trans hO)), ((bl_alloc (bl_alloc (bl_alloc (Below.refl _ _) _) _) _).frozen (p := ⟨bo, 0, none⟩) hob).trans hOf, ⟨by go_simp, by go_simp, by go_simp, by go_simp, by go_simp, by go_simp⟩, ⟨by go_simp, by go_simp, by go_simp, by go_simp, by go_simp, by go_simp⟩, ⟨by go_simp, by go_simp, by go_simp, by go_simp, by go_simp, by go_simp⟩, ⟨by go_simp, by go_simp, by go_simp, by go_simp, by go_simp, by go_simp⟩⟩ ?_
  rintro W0 ⟨hb0, hz0, ⟨ha0_0, ha0_1, ha0_2, ha0_3, ha0_4, ha0_5⟩, ⟨ht0_0, ht0_1⟩, ho0, hof0, ⟨hr0_0, hr0_1, hr0_2, hr0_3, hr0_4, hr0_5⟩, ⟨hrf0_0, hrf0_1, hrf0_2, hrf0_3, hrf0_4, hrf0_5⟩, ⟨hq0_0, hq0_1, hq0_2, hq0_3, hq0_4, hq0_5⟩, ⟨hqf0_0, hqf0_1, hqf0_2, hqf0_3, hqf0_4, hqf0_5⟩⟩
  refine wp_loop_rounds 4 ?_
  have l0_0 : w.heap.size < W0.heap.size := by omega
  have l0_1 : w.heap.size + 1 < W0.heap.size := by omega
  have l0_2 : w.heap.size + 1 + 1 < W0.heap.size := by omega
  have l0_3 : bt < W0.heap.size := by omega
  have l0_4 : bo < W0.heap.size := by omega
  try rw [rounds_succ]
  go_wp2_with fail
  have hecr1 := @Ext.cell2
  refine wp_region_floatl 9 8 _ _ _ _ _ (.cells #[.int .u16 0, .int .u16 0] 25) (by kernel_rfl) rfl rfl (by kernel_rfl) (by kernel_rfl) rfl rfl rfl rfl (fun _ _ => by simp [go_sem]) (fun _ _ d _ _ h => by cases d <;> exact h) (by kernel_rfl) (by kernel_rfl) rfl ?_
  apply Exists.intro
  refine ⟨fun W' => ?_, ?_⟩
  · simp only [List.take_succ_cons, List.take_zero]
    repeat (first | go_big_quiet_skip | (go_big_quiet_want; go_big_quiet_op; first | go_big_quiet_on | (go_big_quiet_call ((first | fail | (go_at_call 31; with_reducible exact ext_call (D0 _)))))))
    exact wpQuiet_nil rfl
  clear hecr1
  simp only [List.drop_succ_cons, List.drop_zero, Act.put, List.setIfInBounds_toArray, List.set_cons_zero, List.set_cons_succ]
  intro B1 r1 hbr1 hBr1 hDr1 hEr1
  have hGr1_0 := block_cell hEr1 0
  have hGr1_1 := block_cell hEr1 1
  have hFr1 := block_free hEr1
  simp only [List.getElem?_toArray, List.getElem?_cons_zero, List.getElem?_cons_succ] at hGr1_0 hGr1_1
  clear hEr1
  try simp only [World.size_alloc, World.size_setCell, World.size_drew] at hBr1
  obtain ⟨hcr1, hfr1⟩ := bcell hbr1
  have hzr1 := hbr1.size
  try simp only [World.size_alloc, World.size_setCell, World.size_drew] at hzr1
  have hlr1w0 : w.heap.size < r1.heap.size := by omega
  have hlr1w1 : w.heap.size + 1 < r1.heap.size := by omega
  have hlr1w2 : w.heap.size + 1 + 1 < r1.heap.size := by omega
  have hlr1bt : bt < r1.heap.size := by omega
  have hlr1bo : bo < r1.heap.size := by omega
  have e1_0 : B1 ≠ bo := by omega
  have e1_0' := Ne.symm e1_0
  have e1_1 : B1 ≠ w.heap.size + 1 + 1 := by omega
  have e1_1' := Ne.symm e1_1
  have e1_2 : B1 ≠ w.heap.size := by omega
  have e1_2' := Ne.symm e1_2
  have e1_3 : B1 ≠ w.heap.size + 1 := by omega
  have e1_3' := Ne.symm e1_3
  have e1_4 : B1 ≠ bt := by omega
  have e1_4' := Ne.symm e1_4
  go_wp2_with fail
  go_region
  go_wp2_with fail
  refine wp_gen (fun W => Below w.heap.size (w.setCell ⟨bo, 0, none⟩ (.bool true)) W ∧ w.heap.size + 3 ≤ W.heap.size ∧ (W.cell? ⟨w.heap.size, 0, none⟩ = some (.int .u16 a0) ∧ W.cell? ⟨w.heap.size, 1, none⟩ = some (.int .u16 a1) ∧ W.cell? ⟨w.heap.size, 2, none⟩ = some (.int .u16 a2) ∧ W.cell? ⟨w.heap.size, 3, none⟩ = some (.int .u16 a3) ∧ W.cell? ⟨w.heap.size, 4, none⟩ = some (.int .u16 a4) ∧ W.cell? ⟨w.heap.size, 5, none⟩ = some (.int .u16 a5)) ∧ (W.cell? ⟨bt, 12, none⟩ = some (.int .u16 t0) ∧ W.cell? ⟨bt, 13, none⟩ = some (.int .u16 t1)) ∧ W.cell? ⟨bo, 0, none⟩ = some (.bool true) ∧ W.frozen? ⟨bo, 0, none⟩ = false ∧ (W.cell? ⟨w.heap.size + 1, 0, none⟩ = some (.int .u16 0) ∧ W.cell? ⟨w.heap.size + 1, 1, none⟩ = some (.int .u16 0) ∧ W.cell? ⟨w.heap.size + 1, 2, none⟩ = some (.int .u16 0) ∧ W.cell? ⟨w.heap.size + 1, 3, none⟩ = some (.int .u16 0) ∧ W.cell? ⟨w.heap.size + 1, 4, none⟩ = some (.int .u16 0) ∧ W.cell? ⟨w.heap.size + 1, 5, none⟩ = some (.int .u16 0)) ∧ (W.frozen? ⟨w.heap.size + 1, 0, none⟩ = false ∧ W.frozen? ⟨w.heap.size + 1, 1, none⟩ = false ∧ W.frozen? ⟨w.heap.size + 1, 2, none⟩ = false ∧ W.frozen? ⟨w.heap.size + 1, 3, none⟩ = false ∧ W.frozen? ⟨w.heap.size + 1, 4, none⟩ = false ∧ W.frozen? ⟨w.heap.size + 1, 5, none⟩ = false) ∧ (W.cell? ⟨w.heap.size + 1 + 1, 0, none⟩ = some (.int .u16 q0) ∧ W.cell? ⟨w.heap.size + 1 + 1, 1, none⟩ = some (.int .u16 q1) ∧ W.cell? ⟨w.heap.size + 1 + 1, 2, none⟩ = some (.int .u16 0) ∧ W.cell? ⟨w.heap.size + 1 + 1, 3, none⟩ = some (.int .u16 0) ∧ W.cell? ⟨w.heap.size + 1 + 1, 4, none⟩ = some (.int .u16 0) ∧ W.cell? ⟨w.heap.size + 1 + 1, 5, none⟩ = some (.int .u16 0)) ∧ (W.frozen? ⟨w.heap.size + 1 + 1, 0, none⟩ = false ∧ W.frozen? ⟨w.heap.size + 1 + 1, 1, none⟩ = false ∧ W.frozen? ⟨w.heap.size + 1 + 1, 2, none⟩ = false ∧ W.frozen? ⟨w.heap.size + 1 + 1, 3, none⟩ = false ∧ W.frozen? ⟨w.heap.size + 1 + 1, 4, none⟩ = false ∧ W.frozen? ⟨w.heap.size + 1 + 1, 5, none⟩ = false)) ⟨(bl_reset (x := .bool false) (bl_far (bl_far (bl_far (bl_far (hb0.trans (hbr1.mono (by omega))) (by omega)) (by omega)) (by omega)) (by omega))).drew, by (try simp only [World.size_alloc, World.size_setCell, World.size_drew]); omega, ⟨by go_simp, by go_simp, by go_simp, by go_simp, by go_simp, by go_simp⟩, ⟨by go_simp, by go_simp⟩, by go_simp, by go_simp, ⟨by go_simp, by go_simp, by go_simp, by go_simp, by go_simp, by go_simp⟩, ⟨by go_simp, by go_simp, by go_simp, by go_simp, by go_simp, by go_simp⟩, ⟨by go_simp, by go_simp, by go_simp, by go_simp, by go_simp, by go_simp⟩, ⟨by go_simp, by go_simp, by go_simp, by go_simp, by go_simp, by go_simp⟩⟩ ?_
  clear hb0 hz0 ht0_0 ht0_1 ho0 hof0 ha0_0 ha0_1 ha0_2 ha0_3 ha0_4 ha0_5 hr0_0 hr0_1 hr0_2 hr0_3 hr0_4 hr0_5 hrf0_0 hrf0_1 hrf0_2 hrf0_3 hrf0_4 hrf0_5 hq0_0 hq0_1 hq0_2 hq0_3 hq0_4 hq0_5 hqf0_0 hqf0_1 hqf0_2 hqf0_3 hqf0_4 hqf0_5 hcr1 hfr1 hbr1
  rintro W1 ⟨hb1, hz1, ⟨ha1_0, ha1_1, ha1_2, ha1_3, ha1_4, ha1_5⟩, ⟨ht1_0, ht1_1⟩, ho1, hof1, ⟨hr1_0, hr1_1, hr1_2, hr1_3, hr1_4, hr1_5⟩, ⟨hrf1_0, hrf1_1, hrf1_2, hrf1_3, hrf1_4, hrf1_5⟩, ⟨hq1_0, hq1_1, hq1_2, hq1_3, hq1_4, hq1_5⟩, ⟨hqf1_0, hqf1_1, hqf1_2, hqf1_3, hqf1_4, hqf1_5⟩⟩
  have l1_0 : w.heap.size < W1.heap.size := by omega
  have l1_1 : w.heap.size + 1 < W1.heap.size := by omega
  have l1_2 : w.heap.size + 1 + 1 < W1.heap.size := by omega
  have l1_3 : bt < W1.heap.size := by omega
  have l1_4 : bo < W1.heap.size := by omega
  try rw [rounds_succ]
  go_wp2_with fail
  have hecr2 := @Ext.cell2
  refine wp_region_floatl 9 8 _ _ _ _ _ (.cells #[.int .u16 0, .int .u16 0] 25) (by kernel_rfl) rfl rfl (by kernel_rfl) (by kernel_rfl) rfl rfl rfl rfl (fun _ _ => by simp [go_sem]) (fun _ _ d _ _ h => by cases d <;> exact h) (by kernel_rfl) (by kernel_rfl) rfl ?_
  apply Exists.intro
  refine ⟨fun W' => ?_, ?_⟩
  · simp only [List.take_succ_cons, List.take_zero]
    repeat (first | go_big_quiet_skip | (go_big_quiet_want; go_big_quiet_op; first | go_big_quiet_on | (go_big_quiet_call ((first | fail | (go_at_call 31; with_reducible exact ext_call (D1 _)))))))
    exact wpQuiet_nil rfl
  clear hecr2
  simp only [List.drop_succ_cons, List.drop_zero, Act.put, List.setIfInBounds_toArray, List.set_cons_zero, List.set_cons_succ]
  intro B2 r2 hbr2 hBr2 hDr2 hEr2
  have hGr2_0 := block_cell hEr2 0
  have hGr2_1 := block_cell hEr2 1
  have hFr2 := block_free hEr2
  simp only [List.getElem?_toArray, List.getElem?_cons_zero, List.getElem?_cons_succ] at hGr2_0 hGr2_1
  clear hEr2
  try simp only [World.size_alloc, World.size_setCell, World.size_drew] at hBr2
  obtain ⟨hcr2, hfr2⟩ := bcell hbr2
  have hzr2 := hbr2.size
  try simp only [World.size_alloc, World.size_setCell, World.size_drew] at hzr2
  have hlr2w0 : w.heap.size < r2.heap.size := by omega
  have hlr2w1 : w.heap.size + 1 < r2.heap.size := by omega
  have hlr2w2 : w.heap.size + 1 + 1 < r2.heap.size := by omega
  have hlr2bt : bt < r2.heap.size := by omega
  have hlr2bo : bo < r2.heap.size := by omega
  have e2_0 : B2 ≠ bo := by omega
  have e2_0' := Ne.symm e2_0
  have e2_1 : B2 ≠ w.heap.size + 1 + 1 := by omega
  have e2_1' := Ne.symm e2_1
  have e2_2 : B2 ≠ w.heap.size := by omega
  have e2_2' := Ne.symm e2_2
  have e2_3 : B2 ≠ w.heap.size + 1 := by omega
  have e2_3' := Ne.symm e2_3
  have e2_4 : B2 ≠ bt := by omega
  have e2_4' := Ne.symm e2_4
  go_wp2_with fail
  go_region
  go_wp2_with fail
  refine wp_gen (fun W => Below w.heap.size (w.setCell ⟨bo, 0, none⟩ (.bool true)) W ∧ w.heap.size + 3 ≤ W.heap.size ∧ (W.cell? ⟨w.heap.size, 0, none⟩ = some (.int .u16 a0) ∧ W.cell? ⟨w.heap.size, 1, none⟩ = some (.int .u16 a1) ∧ W.cell? ⟨w.heap.size, 2, none⟩ = some (.int .u16 a2) ∧ W.cell? ⟨w.heap.size, 3, none⟩ = some (.int .u16 a3) ∧ W.cell? ⟨w.heap.size, 4, none⟩ = some (.int .u16 a4) ∧ W.cell? ⟨w.heap.size, 5, none⟩ = some (.int .u16 a5)) ∧ (W.cell? ⟨bt, 12, none⟩ = some (.int .u16 t0) ∧ W.cell? ⟨bt, 13, none⟩ = some (.int .u16 t1)) ∧ W.cell? ⟨bo, 0, none⟩ = some (.bool true) ∧ W.frozen? ⟨bo, 0, none⟩ = false ∧ (W.cell? ⟨w.heap.size + 1, 0, none⟩ = some (.int .u16 0) ∧ W.cell? ⟨w.heap.size + 1, 1, none⟩ = some (.int .u16 0) ∧ W.cell? ⟨w.heap.size + 1, 2, none⟩ = some (.int .u16 0) ∧ W.cell? ⟨w.heap.size + 1, 3, none⟩ = some (.int .u16 0) ∧ W.cell? ⟨w.heap.size + 1, 4, none⟩ = some (.int .u16 0) ∧ W.cell? ⟨w.heap.size + 1, 5, none⟩ = some (.int .u16 0)) ∧ (W.frozen? ⟨w.heap.size + 1, 0, none⟩ = false ∧ W.frozen? ⟨w.heap.size + 1, 1, none⟩ = false ∧ W.frozen? ⟨w.heap.size + 1, 2, none⟩ = false ∧ W.frozen? ⟨w.heap.size + 1, 3, none⟩ = false ∧ W.frozen? ⟨w.heap.size + 1, 4, none⟩ = false ∧ W.frozen? ⟨w.heap.size + 1, 5, none⟩ = false) ∧ (W.cell? ⟨w.heap.size + 1 + 1, 0, none⟩ = some (.int .u16 q0) ∧ W.cell? ⟨w.heap.size + 1 + 1, 1, none⟩ = some (.int .u16 q1) ∧ W.cell? ⟨w.heap.size + 1 + 1, 2, none⟩ = some (.int .u16 q2) ∧ W.cell? ⟨w.heap.size + 1 + 1, 3, none⟩ = some (.int .u16 q3) ∧ W.cell? ⟨w.heap.size + 1 + 1, 4, none⟩ = some (.int .u16 0) ∧ W.cell? ⟨w.heap.size + 1 + 1, 5, none⟩ = some (.int .u16 0)) ∧ (W.frozen? ⟨w.heap.size + 1 + 1, 0, none⟩ = false ∧ W.frozen? ⟨w.heap.size + 1 + 1, 1, none⟩ = false ∧ W.frozen? ⟨w.heap.size + 1 + 1, 2, none⟩ = false ∧ W.frozen? ⟨w.heap.size + 1 + 1, 3, none⟩ = false ∧ W.frozen? ⟨w.heap.size + 1 + 1, 4, none⟩ = false ∧ W.frozen? ⟨w.heap.size + 1 + 1, 5, none⟩ = false)) ⟨(bl_reset (x := .bool true) (bl_far (bl_far (bl_far (bl_far (hb1.trans (hbr2.mono (by omega))) (by omega)) (by omega)) (by omega)) (by omega))).drew, by (try simp only [World.size_alloc, World.size_setCell, World.size_drew]); omega, ⟨by go_simp, by go_simp, by go_simp, by go_simp, by go_simp, by go_simp⟩, ⟨by go_simp, by go_simp⟩, by go_simp, by go_simp, ⟨by go_simp, by go_simp, by go_simp, by go_simp, by go_simp, by go_simp⟩, ⟨by go_simp, by go_simp, by go_simp, by go_simp, by go_simp, by go_simp⟩, ⟨by go_simp, by go_simp, by go_simp, by go_simp, by go_simp, by go_simp⟩, ⟨by go_simp, by go_simp, by go_simp, by go_simp, by go_simp, by go_simp⟩⟩ ?_
  clear hb1 hz1 ht1_0 ht1_1 ho1 hof1 ha1_0 ha1_1 ha1_2 ha1_3 ha1_4 ha1_5 hr1_0 hr1_1 hr1_2 hr1_3 hr1_4 hr1_5 hrf1_0 hrf1_1 hrf1_2 hrf1_3 hrf1_4 hrf1_5 hq1_0 hq1_1 hq1_2 hq1_3 hq1_4 hq1_5 hqf1_0 hqf1_1 hqf1_2 hqf1_3 hqf1_4 hqf1_5 hcr2 hfr2 hbr2
  rintro W2 ⟨hb2, hz2, ⟨ha2_0, ha2_1, ha2_2, ha2_3, ha2_4, ha2_5⟩, ⟨ht2_0, ht2_1⟩, ho2, hof2, ⟨hr2_0, hr2_1, hr2_2, hr2_3, hr2_4, hr2_5⟩, ⟨hrf2_0, hrf2_1, hrf2_2, hrf2_3, hrf2_4, hrf2_5⟩, ⟨hq2_0, hq2_1, hq2_2, hq2_3, hq2_4, hq2_5⟩, ⟨hqf2_0, hqf2_1, hqf2_2, hqf2_3, hqf2_4, hqf2_5⟩⟩
  have l2_0 : w.heap.size < W2.heap.size := by omega
  have l2_1 : w.heap.size + 1 < W2.heap.size := by omega
  have l2_2 : w.heap.size + 1 + 1 < W2.heap.size := by omega
  have l2_3 : bt < W2.heap.size := by omega
  have l2_4 : bo < W2.heap.size := by omega
  try rw [rounds_succ]
  go_wp2_with fail
  have hecr3 := @Ext.cell2
  refine wp_region_floatl 9 8 _ _ _ _ _ (.cells #[.int .u16 0, .int .u16 0] 25) (by kernel_rfl) rfl rfl (by kernel_rfl) (by kernel_rfl) rfl rfl rfl rfl (fun _ _ => by simp [go_sem]) (fun _ _ d _ _ h => by cases d <;> exact h) (by kernel_rfl) (by kernel_rfl) rfl ?_
  apply Exists.intro
  refine ⟨fun W' => ?_, ?_⟩
  · simp only [List.take_succ_cons, List.take_zero]
    repeat (first | go_big_quiet_skip | (go_big_quiet_want; go_big_quiet_op; first | go_big_quiet_on | (go_big_quiet_call ((first | fail | (go_at_call 31; with_reducible exact ext_call (D2 _)))))))
    exact wpQuiet_nil rfl
  clear hecr3
  simp only [List.drop_succ_cons, List.drop_zero, Act.put, List.setIfInBounds_toArray, List.set_cons_zero, List.set_cons_succ]
  intro B3 r3 hbr3 hBr3 hDr3 hEr3
  have hGr3_0 := block_cell hEr3 0
  have hGr3_1 := block_cell hEr3 1
  have hFr3 := block_free hEr3
  simp only [List.getElem?_toArray, List.getElem?_cons_zero, List.getElem?_cons_succ] at hGr3_0 hGr3_1
  clear hEr3
  try simp only [World.size_alloc, World.size_setCell, World.size_drew] at hBr3
  obtain ⟨hcr3, hfr3⟩ := bcell hbr3
  have hzr3 := hbr3.size
  try simp only [World.size_alloc, World.size_setCell, World.size_drew] at hzr3
  have hlr3w0 : w.heap.size < r3.heap.size := by omega
  have hlr3w1 : w.heap.size + 1 < r3.heap.size := by omega
  have hlr3w2 : w.heap.size + 1 + 1 < r3.heap.size := by omega
  have hlr3bt : bt < r3.heap.size := by omega
  have hlr3bo : bo < r3.heap.size := by omega
  have e3_0 : B3 ≠ bo := by omega
  have e3_0' := Ne.symm e3_0
  have e3_1 : B3 ≠ w.heap.size + 1 + 1 := by omega
  have e3_1' := Ne.symm e3_1
  have e3_2 : B3 ≠ w.heap.size := by omega
  have e3_2' := Ne.symm e3_2
  have e3_3 : B3 ≠ w.heap.size + 1 := by omega
  have e3_3' := Ne.symm e3_3
  have e3_4 : B3 ≠ bt := by omega
  have e3_4' := Ne.symm e3_4
  go_wp2_with fail
  go_region
  go_wp2_with fail
  refine wp_gen (fun W => Below w.heap.size (w.setCell ⟨bo, 0, none⟩ (.bool true)) W ∧ w.heap.size + 3 ≤ W.heap.size ∧ (W.cell? ⟨w.heap.size, 0, none⟩ = some (.int .u16 a0) ∧ W.cell? ⟨w.heap.size, 1, none⟩ = some (.int .u16 a1) ∧ W.cell? ⟨w.heap.size, 2, none⟩ = some (.int .u16 a2) ∧ W.cell? ⟨w.heap.size, 3, none⟩ = some (.int .u16 a3) ∧ W.cell? ⟨w.heap.size, 4, none⟩ = some (.int .u16 a4) ∧ W.cell? ⟨w.heap.size, 5, none⟩ = some (.int .u16 a5)) ∧ (W.cell? ⟨bt, 12, none⟩ = some (.int .u16 t0) ∧ W.cell? ⟨bt, 13, none⟩ = some (.int .u16 t1)) ∧ W.cell? ⟨bo, 0, none⟩ = some (.bool true) ∧ W.frozen? ⟨bo, 0, none⟩ = false ∧ (W.cell? ⟨w.heap.size + 1, 0, none⟩ = some (.int .u16 0) ∧ W.cell? ⟨w.heap.size + 1, 1, none⟩ = some (.int .u16 0) ∧ W.cell? ⟨w.heap.size + 1, 2, none⟩ = some (.int .u16 0) ∧ W.cell? ⟨w.heap.size + 1, 3, none⟩ = some (.int .u16 0) ∧ W.cell? ⟨w.heap.size + 1, 4, none⟩ = some (.int .u16 0) ∧ W.cell? ⟨w.heap.size + 1, 5, none⟩ = some (.int .u16 0)) ∧ (W.frozen? ⟨w.heap.size + 1, 0, none⟩ = false ∧ W.frozen? ⟨w.heap.size + 1, 1, none⟩ = false ∧ W.frozen? ⟨w.heap.size + 1, 2, none⟩ = false ∧ W.frozen? ⟨w.heap.size + 1, 3, none⟩ = false ∧ W.frozen? ⟨w.heap.size + 1, 4, none⟩ = false ∧ W.frozen? ⟨w.heap.size + 1, 5, none⟩ = false) ∧ (W.cell? ⟨w.heap.size + 1 + 1, 0, none⟩ = some (.int .u16 q0) ∧ W.cell? ⟨w.heap.size + 1 + 1, 1, none⟩ = some (.int .u16 q1) ∧ W.cell? ⟨w.heap.size + 1 + 1, 2, none⟩ = some (.int .u16 q2) ∧ W.cell? ⟨w.heap.size + 1 + 1, 3, none⟩ = some (.int .u16 q3) ∧ W.cell? ⟨w.heap.size + 1 + 1, 4, none⟩ = some (.int .u16 q4) ∧ W.cell? ⟨w.heap.size + 1 + 1, 5, none⟩ = some (.int .u16 q5)) ∧ (W.frozen? ⟨w.heap.size + 1 + 1, 0, none⟩ = false ∧ W.frozen? ⟨w.heap.size + 1 + 1, 1, none⟩ = false ∧ W.frozen? ⟨w.heap.size + 1 + 1, 2, none⟩ = false ∧ W.frozen? ⟨w.heap.size + 1 + 1, 3, none⟩ = false ∧ W.frozen? ⟨w.heap.size + 1 + 1, 4, none⟩ = false ∧ W.frozen? ⟨w.heap.size + 1 + 1, 5, none⟩ = false)) ⟨(bl_reset (x := .bool true) (bl_far (bl_far (bl_far (bl_far (hb2.trans (hbr3.mono (by omega))) (by omega)) (by omega)) (by omega)) (by omega))).drew, by (try simp only [World.size_alloc, World.size_setCell, World.size_drew]); omega, ⟨by go_simp, by go_simp, by go_simp, by go_simp, by go_simp, by go_simp⟩, ⟨by go_simp, by go_simp⟩, by go_simp, by go_simp, ⟨by go_simp, by go_simp, by go_simp, by go_simp, by go_simp, by go_simp⟩, ⟨by go_simp, by go_simp, by go_simp, by go_simp, by go_simp, by go_simp⟩, ⟨by go_simp, by go_simp, by go_simp, by go_simp, by go_simp, by go_simp⟩, ⟨by go_simp, by go_simp, by go_simp, by go_simp, by go_simp, by go_simp⟩⟩ ?_
  clear hb2 hz2 ht2_0 ht2_1 ho2 hof2 ha2_0 ha2_1 ha2_2 ha2_3 ha2_4 ha2_5 hr2_0 hr2_1 hr2_2 hr2_3 hr2_4 hr2_5 hrf2_0 hrf2_1 hrf2_2 hrf2_3 hrf2_4 hrf2_5 hq2_0 hq2_1 hq2_2 hq2_3 hq2_4 hq2_5 hqf2_0 hqf2_1 hqf2_2 hqf2_3 hqf2_4 hqf2_5 hcr3 hfr3 hbr3
  rintro W3 ⟨hb3, hz3, ⟨ha3_0, ha3_1, ha3_2, ha3_3, ha3_4, ha3_5⟩, ⟨ht3_0, ht3_1⟩, ho3, hof3, ⟨hr3_0, hr3_1, hr3_2, hr3_3, hr3_4, hr3_5⟩, ⟨hrf3_0, hrf3_1, hrf3_2, hrf3_3, hrf3_4, hrf3_5⟩, ⟨hq3_0, hq3_1, hq3_2, hq3_3, hq3_4, hq3_5⟩, ⟨hqf3_0, hqf3_1, hqf3_2, hqf3_3, hqf3_4, hqf3_5⟩⟩
  try rw [rounds_succ]
  go_wp2
  refine bodyPost_ret (v := (.agg #[.int .u16 (q0), .int .u16 (q1), .int .u16 (q2), .int .u16 (q3), .int .u16 (q4), .int .u16 (q5)])) (by simp [results, Try.results30, go_sem, *]) rfl ⟨rfl, ?_⟩
  exact bl_far (bl_far (bl_far (bl_far (bl_far (bl_far hb3 (by omega)) (by omega)) (by omega)) (by omega)) (by omega)) (by omega)

set_option maxRecDepth 100000 in
set_option maxHeartbeats 4000000 in
theorem cdiv_1 (a0 a1 a2 a3 a4 a5 t0 t1 q0 q1 q2 q3 q4 q5 : Int) (o0 o1 o2 : Bool) (bt bo : Nat) (w : World) (htb : bt < w.heap.size) (hob : bo < w.heap.size) (hto : bt ≠ bo) (hT0 : w.cell? ⟨bt, 12, none⟩ = some (.int .u16 t0)) (hT1 : w.cell? ⟨bt, 13, none⟩ = some (.int .u16 t1)) (hO : w.cell? ⟨bo, 0, none⟩ = some (.bool false)) (hOf : w.frozen? ⟨bo, 0, none⟩ = false)
    (D0 : (∀ w, Calls Try.prog 31 #[(.agg #[.int .u16 (a0), .int .u16 (a1)]), (.agg #[.int .u16 (t0), .int .u16 (t1)])] w fun e w' => e = .returned (.tuple #[(.agg #[.int .u16 (q0), .int .u16 (q1)]), .bool false]) ∧ Below w.heap.size w w'))
    (D1 : (∀ w, Calls Try.prog 31 #[(.agg #[.int .u16 (a2), .int .u16 (a3)]), (.agg #[.int .u16 (t0), .int .u16 (t1)])] w fun e w' => e = .returned (.tuple #[(.agg #[.int .u16 (q2), .int .u16 (q3)]), .bool true]) ∧ Below w.heap.size w w'))
    (D2 : (∀ w, Calls Try.prog 31 #[(.agg #[.int .u16 (a4), .int .u16 (a5)]), (.agg #[.int .u16 (t0), .int .u16 (t1)])] w fun e w' => e = .returned (.tuple #[(.agg #[.int .u16 (q4), .int .u16 (q5)]), .bool o2]) ∧ Below w.heap.size w w')) :
    Calls Try.prog 30 #[(.agg #[.int .u16 (a0), .int .u16 (a1), .int .u16 (a2), .int .u16 (a3), .int .u16 (a4), .int .u16 (a5)]), .pointer (some ⟨bt, 0, none⟩), .pointer (some ⟨bo, 0, none⟩)] w fun e w' => e = .returned (.agg #[.int .u16 (q0), .int .u16 (q1), .int .u16 (q2), .int .u16 (q3), .int .u16 (q4), .int .u16 (q5)]) ∧ Below w.heap.size (w.setCell ⟨bo, 0, none⟩ (.bool true)) w' := by
  have n0 : w.heap.size ≠ bo := by omega
  have n0' := Ne.symm n0
  have n1 : w.heap.size + 1 ≠ bo := by omega
  have n1' := Ne.symm n1
  have n2 : w.heap.size + 1 + 1 ≠ bo := by omega
  have n2' := Ne.symm n2
  have hto' := Ne.symm hto
  have n3 : w.heap.size ≠ bt := by omega
  have n3' := Ne.symm n3
  have n4 : w.heap.size + 1 ≠ bt := by omega
  have n4' := Ne.symm n4
  have n5 : w.heap.size + 1 + 1 ≠ bt := by omega
  have n5' := Ne.symm n5
  go_enter Try.func30, Try.ntmps30
  go_wp2_with fail
  refine wp_gen (fun W => Below w.heap.size (w.setCell ⟨bo, 0, none⟩ (.bool false)) W ∧ w.heap.size + 3 ≤ W.heap.size ∧ (W.cell? ⟨w.heap.size, 0, none⟩ = some (.int .u16 a0) ∧ W.cell? ⟨w.heap.size, 1, none⟩ = some (.int .u16 a1) ∧ W.cell? ⟨w.heap.size, 2, none⟩ = some (.int .u16 a2) ∧ W.cell? ⟨w.heap.size, 3, none⟩ = some (.int .u16 a3) ∧ W.cell? ⟨w.heap.size, 4, none⟩ = some (.int .u16 a4) ∧ W.cell? ⟨w.heap.size, 5, none⟩ = some (.int .u16 a5)) ∧ (W.cell? ⟨bt, 12, none⟩ = some (.int .u16 t0) ∧ W.cell? ⟨bt, 13, none⟩ = some (.int .u16 t1)) ∧ W.cell? ⟨bo, 0, none⟩ = some (.bool false) ∧ W.frozen? ⟨bo, 0, none⟩ = false ∧ (W.cell? ⟨w.heap.size + 1, 0, none⟩ = some (.int .u16 0) ∧ W.cell? ⟨w.heap.size + 1, 1, none⟩ = some (.int .u16 0) ∧ W.cell? ⟨w.heap.size + 1, 2, none⟩ = some (.int .u16 0) ∧ W.cell? ⟨w.heap.size + 1, 3, none⟩ = some (.int .u16 0) ∧ W.cell? ⟨w.heap.size + 1, 4, none⟩ = some (.int .u16 0) ∧ W.cell? ⟨w.heap.size + 1, 5, none⟩ = some (.int .u16 0)) ∧ (W.frozen? ⟨w.heap.size + 1, 0, none⟩ = false ∧ W.frozen? ⟨w.heap.size + 1, 1, none⟩ = false ∧ W.frozen? ⟨w.heap.size + 1, 2, none⟩ = false ∧ W.frozen? ⟨w.heap.size + 1, 3, none⟩ = false ∧ W.frozen? ⟨w.heap.size + 1, 4, none⟩ = false ∧ W.frozen? ⟨w.heap.size + 1, 5, none⟩ = false) ∧ (W.cell? ⟨w.heap.size + 1 + 1, 0, none⟩ = some (.int .u16 0) ∧ W.cell? ⟨w.heap.size + 1 + 1, 1, none⟩ = some (.int .u16 0) ∧ W.cell? ⟨w.heap.size + 1 + 1, 2, none⟩ = some (.int .u16 0) ∧ W.cell? ⟨w.heap.size + 1 + 1, 3, none⟩ = some (.int .u16 0) ∧ W.cell? ⟨w.heap.size + 1 + 1, 4, none⟩ = some (.int .u16 0) ∧ W.cell? ⟨w.heap.size + 1 + 1, 5, none⟩ = some (.int .u16 0)) ∧ (W.frozen? ⟨w.heap.size + 1 + 1, 0, none⟩ = false ∧ W.frozen? ⟨w.heap.size + 1 + 1, 1, none⟩ = false ∧ W.frozen? ⟨w.heap.size + 1 + 1, 2, none⟩ = false ∧ W.frozen? ⟨w.heap.size + 1 + 1, 3, none⟩ = false ∧ W.frozen? ⟨w.heap.size + 1 + 1, 4, none⟩ = false ∧ W.frozen? ⟨w.heap.size + 1 + 1, 5, none⟩ = false)) ⟨by rw [setCell_id hO]; exact (by repeat' (first | (with_reducible exact Below.refl _ _) | (with_reducible refine bl_set ?_ _ ?_) | (with_reducible refine bl_alloc ?_ _) | (with_reducible refine bl_drew ?_) | (with_reducible refine bl_via (by with_reducible assumption) ?_) | (with_reducible assumption) | omega | (simp only []; omega) | (simp; omega))), by simp, ⟨by go_simp, by go_simp, by go_simp, by go_simp, by go_simp, by go_simp⟩, ⟨(World.cell?_alloc_lt _ _ _ (by simp only [World.size_alloc]; omega)).trans ((World.cell?_alloc_lt _ _ _ (by simp only [World.size_alloc]; omega)).trans ((World.cell?_alloc_lt _ _ _ (by omega)).trans hT0)), (World.cell?_alloc_lt _ _ _ (by simp only [World.size_alloc]; omega)).trans ((World.cell?_alloc_lt _ _ _ (by simp only [World.size_alloc]; omega)).trans ((World.cell?_alloc_lt _ _ _ (by omega)).trans hT1))⟩, (World.cell?_alloc_lt _ _ _ (by simp only [World.size_alloc]; omega)).trans ((World.cell?_alloc_lt _ _ _ (by simp only [World.size_alloc]; omega)).trans ((World.cell?_alloc_lt _ _ _ (by omega)).trans hO)), ((bl_alloc (bl_alloc (bl_alloc (Below.refl _ _) _) _) _).frozen (p := ⟨bo, 0, none⟩) hob).trans hOf, ⟨by go_simp, by go_simp, by go_simp, by go_simp, by go_simp, by go_simp⟩, ⟨by go_simp, by go_simp, by go_simp, by go_simp, by go_simp, by go_simp⟩, ⟨by go_simp, by go_simp, by go_simp, by go_simp, by go_simp, by go_simp⟩, ⟨by go_simp, by go_simp, by go_simp, by go_simp, by go_simp, by go_simp⟩⟩ ?_
  rintro W0 ⟨hb0, hz0, ⟨ha0_0, ha0_1, ha0_2, ha0_3, ha0_4, ha0_5⟩, ⟨ht0_0, ht0_1⟩, ho0, hof0, ⟨hr0_0, hr0_1, hr0_2, hr0_3, hr0_4, hr0_5⟩, ⟨hrf0_0, hrf0_1, hrf0_2, hrf0_3, hrf0_4, hrf0_5⟩, ⟨hq0_0, hq0_1, hq0_2, hq0_3, hq0_4, hq0_5⟩, ⟨hqf0_0, hqf0_1, hqf0_2, hqf0_3, hqf0_4, hqf0_5⟩⟩
  refine wp_loop_rounds 4 ?_
  have l0_0 : w.heap.size < W0.heap.size := by omega
  have l0_1 : w.heap.size + 1 < W0.heap.size := by omega
  have l0_2 : w.heap.size + 1 + 1 < W0.heap.size := by omega
  have l0_3 : bt < W0.heap.size := by omega
  have l0_4 : bo < W0.heap.size := by omega
  try rw [rounds_succ]
  go_wp2_with fail
  have hecr1 := @Ext.cell2
  refine wp_region_floatl 9 8 _ _ _ _ _ (.cells #[.int .u16 0, .int .u16 0] 25) (by kernel_rfl) rfl rfl (by kernel_rfl) (by kernel_rfl) rfl rfl rfl rfl (fun _ _ => by simp [go_sem]) (fun _ _ d _ _ h => by cases d <;> exact h) (by kernel_rfl) (by kernel_rfl) rfl ?_
  apply Exists.intro
  refine ⟨fun W' => ?_, ?_⟩
  · simp only [List.take_succ_cons, List.take_zero]
    repeat (first | go_big_quiet_skip | (go_big_quiet_want; go_big_quiet_op; first | go_big_quiet_on | (go_big_quiet_call ((first | fail | (go_at_call 31; with_reducible exact ext_call (D0 _)))))))
    exact wpQuiet_nil rfl
  clear hecr1
  simp only [List.drop_succ_cons, List.drop_zero, Act.put, List.setIfInBounds_toArray, List.set_cons_zero, List.set_cons_succ]
  intro B1 r1 hbr1 hBr1 hDr1 hEr1
  have hGr1_0 := block_cell hEr1 0
  have hGr1_1 := block_cell hEr1 1
  have hFr1 := block_free hEr1
  simp only [List.getElem?_toArray, List.getElem?_cons_zero, List.getElem?_cons_succ] at hGr1_0 hGr1_1
  clear hEr1
  try simp only [World.size_alloc, World.size_setCell, World.size_drew] at hBr1
  obtain ⟨hcr1, hfr1⟩ := bcell hbr1
  have hzr1 := hbr1.size
  try simp only [World.size_alloc, World.size_setCell, World.size_drew] at hzr1
  have hlr1w0 : w.heap.size < r1.heap.size := by omega
  have hlr1w1 : w.heap.size + 1 < r1.heap.size := by omega
  have hlr1w2 : w.heap.size + 1 + 1 < r1.heap.size := by omega
  have hlr1bt : bt < r1.heap.size := by omega
  have hlr1bo : bo < r1.heap.size := by omega
  have e1_0 : B1 ≠ bo := by omega
  have e1_0' := Ne.symm e1_0
  have e1_1 : B1 ≠ w.heap.size + 1 + 1 := by omega
  have e1_1' := Ne.symm e1_1
  have e1_2 : B1 ≠ w.heap.size := by omega
  have e1_2' := Ne.symm e1_2
  have e1_3 : B1 ≠ w.heap.size + 1 := by omega
  have e1_3' := Ne.symm e1_3
  have e1_4 : B1 ≠ bt := by omega
  have e1_4' := Ne.symm e1_4
  go_wp2_with fail
  go_region
  go_wp2_with fail
  refine wp_gen (fun W => Below w.heap.size (w.setCell ⟨bo, 0, none⟩ (.bool false)) W ∧ w.heap.size + 3 ≤ W.heap.size ∧ (W.cell? ⟨w.heap.size, 0, none⟩ = some (.int .u16 a0) ∧ W.cell? ⟨w.heap.size, 1, none⟩ = some (.int .u16 a1) ∧ W.cell? ⟨w.heap.size, 2, none⟩ = some (.int .u16 a2) ∧ W.cell? ⟨w.heap.size, 3, none⟩ = some (.int .u16 a3) ∧ W.cell? ⟨w.heap.size, 4, none⟩ = some (.int .u16 a4) ∧ W.cell? ⟨w.heap.size, 5, none⟩ = some (.int .u16 a5)) ∧ (W.cell? ⟨bt, 12, none⟩ = some (.int .u16 t0) ∧ W.cell? ⟨bt, 13, none⟩ = some (.int .u16 t1)) ∧ W.cell? ⟨bo, 0, none⟩ = some (.bool false) ∧ W.frozen? ⟨bo, 0, none⟩ = false ∧ (W.cell? ⟨w.heap.size + 1, 0, none⟩ = some (.int .u16 0) ∧ W.cell? ⟨w.heap.size + 1, 1, none⟩ = some (.int .u16 0) ∧ W.cell? ⟨w.heap.size + 1, 2, none⟩ = some (.int .u16 0) ∧ W.cell? ⟨w.heap.size + 1, 3, none⟩ = some (.int .u16 0) ∧ W.cell? ⟨w.heap.size + 1, 4, none⟩ = some (.int .u16 0) ∧ W.cell? ⟨w.heap.size + 1, 5, none⟩ = some (.int .u16 0)) ∧ (W.frozen? ⟨w.heap.size + 1, 0, none⟩ = false ∧ W.frozen? ⟨w.heap.size + 1, 1, none⟩ = false ∧ W.frozen? ⟨w.heap.size + 1, 2, none⟩ = false ∧ W.frozen? ⟨w.heap.size + 1, 3, none⟩ = false ∧ W.frozen? ⟨w.heap.size + 1, 4, none⟩ = false ∧ W.frozen? ⟨w.heap.size + 1, 5, none⟩ = false) ∧ (W.cell? ⟨w.heap.size + 1 + 1, 0, none⟩ = some (.int .u16 q0) ∧ W.cell? ⟨w.heap.size + 1 + 1, 1, none⟩ = some (.int .u16 q1) ∧ W.cell? ⟨w.heap.size + 1 + 1, 2, none⟩ = some (.int .u16 0) ∧ W.cell? ⟨w.heap.size + 1 + 1, 3, none⟩ = some (.int .u16 0) ∧ W.cell? ⟨w.heap.size + 1 + 1, 4, none⟩ = some (.int .u16 0) ∧ W.cell? ⟨w.heap.size + 1 + 1, 5, none⟩ = some (.int .u16 0)) ∧ (W.frozen? ⟨w.heap.size + 1 + 1, 0, none⟩ = false ∧ W.frozen? ⟨w.heap.size + 1 + 1, 1, none⟩ = false ∧ W.frozen? ⟨w.heap.size + 1 + 1, 2, none⟩ = false ∧ W.frozen? ⟨w.heap.size + 1 + 1, 3, none⟩ = false ∧ W.frozen? ⟨w.heap.size + 1 + 1, 4, none⟩ = false ∧ W.frozen? ⟨w.heap.size + 1 + 1, 5, none⟩ = false)) ⟨(bl_reset (x := .bool false) (bl_far (bl_far (bl_far (bl_far (hb0.trans (hbr1.mono (by omega))) (by omega)) (by omega)) (by omega)) (by omega))).drew, by (try simp only [World.size_alloc, World.size_setCell, World.size_drew]); omega, ⟨by go_simp, by go_simp, by go_simp, by go_simp, by go_simp, by go_simp⟩, ⟨by go_simp, by go_simp⟩, by go_simp, by go_simp, ⟨by go_simp, by go_simp, by go_simp, by go_simp, by go_simp, by go_simp⟩, ⟨by go_simp, by go_simp, by go_simp, by go_simp, by go_simp, by go_simp⟩, ⟨by go_simp, by go_simp, by go_simp, by go_simp, by go_simp, by go_simp⟩, ⟨by go_simp, by go_simp, by go_simp, by go_simp, by go_simp, by go_simp⟩⟩ ?_
  clear hb0 hz0 ht0_0 ht0_1 ho0 hof0 ha0_0 ha0_1 ha0_2 ha0_3 ha0_4 ha0_5 hr0_0 hr0_1 hr0_2 hr0_3 hr0_4 hr0_5 hrf0_0 hrf0_1 hrf0_2 hrf0_3 hrf0_4 hrf0_5 hq0_0 hq0_1 hq0_2 hq0_3 hq0_4 hq0_5 hqf0_0 hqf0_1 hqf0_2 hqf0_3 hqf0_4 hqf0_5 hcr1 hfr1 hbr1
  rintro W1 ⟨hb1, hz1, ⟨ha1_0, ha1_1, ha1_2, ha1_3, ha1_4, ha1_5⟩, ⟨ht1_0, ht1_1⟩, ho1, hof1, ⟨hr1_0, hr1_1, hr1_2, hr1_3, hr1_4, hr1_5⟩, ⟨hrf1_0, hrf1_1, hrf1_2, hrf1_3, hrf1_4, hrf1_5⟩, ⟨hq1_0, hq1_1, hq1_2, hq1_3, hq1_4, hq1_5⟩, ⟨hqf1_0, hqf1_1, hqf1_2, hqf1_3, hqf1_4, hqf1_5⟩⟩
  have l1_0 : w.heap.size < W1.heap.size := by omega
  have l1_1 : w.heap.size + 1 < W1.heap.size := by omega
  have l1_2 : w.heap.size + 1 + 1 < W1.heap.size := by omega
  have l1_3 : bt < W1.heap.size := by omega
  have l1_4 : bo < W1.heap.size := by omega
  try rw [rounds_succ]
  go_wp2_with fail
  have hecr2 := @Ext.cell2
  refine wp_region_floatl 9 8 _ _ _ _ _ (.cells #[.int .u16 0, .int .u16 0] 25) (by kernel_rfl) rfl rfl (by kernel_rfl) (by kernel_rfl) rfl rfl rfl rfl (fun _ _ => by simp [go_sem]) (fun _ _ d _ _ h => by cases d <;> exact h) (by kernel_rfl) (by kernel_rfl) rfl ?_
  apply Exists.intro
  refine ⟨fun W' => ?_, ?_⟩
  · simp only [List.take_succ_cons, List.take_zero]
    repeat (first | go_big_quiet_skip | (go_big_quiet_want; go_big_quiet_op; first | go_big_quiet_on | (go_big_quiet_call ((first | fail | (go_at_call 31; with_reducible exact ext_call (D1 _)))))))
    exact wpQuiet_nil rfl
  clear hecr2
  simp only [List.drop_succ_cons, List.drop_zero, Act.put, List.setIfInBounds_toArray, List.set_cons_zero, List.set_cons_succ]
  intro B2 r2 hbr2 hBr2 hDr2 hEr2
  have hGr2_0 := block_cell hEr2 0
  have hGr2_1 := block_cell hEr2 1
  have hFr2 := block_free hEr2
  simp only [List.getElem?_toArray, List.getElem?_cons_zero, List.getElem?_cons_succ] at hGr2_0 hGr2_1
  clear hEr2
  try simp only [World.size_alloc, World.size_setCell, World.size_drew] at hBr2
  obtain ⟨hcr2, hfr2⟩ := bcell hbr2
  have hzr2 := hbr2.size
  try simp only [World.size_alloc, World.size_setCell, World.size_drew] at hzr2
  have hlr2w0 : w.heap.size < r2.heap.size := by omega
  have hlr2w1 : w.heap.size + 1 < r2.heap.size := by omega
  have hlr2w2 : w.heap.size + 1 + 1 < r2.heap.size := by omega
  have hlr2bt : bt < r2.heap.size := by omega
  have hlr2bo : bo < r2.heap.size := by omega
  have e2_0 : B2 ≠ bo := by omega
  have e2_0' := Ne.symm e2_0
  have e2_1 : B2 ≠ w.heap.size + 1 + 1 := by omega
  have e2_1' := Ne.symm e2_1
  have e2_2 : B2 ≠ w.heap.size := by omega
  have e2_2' := Ne.symm e2_2
  have e2_3 : B2 ≠ w.heap.size + 1 := by omega
  have e2_3' := Ne.symm e2_3
  have e2_4 : B2 ≠ bt := by omega
  have e2_4' := Ne.symm e2_4
  go_wp2_with fail
  go_region
  go_wp2_with fail
  refine wp_gen (fun W => Below w.heap.size (w.setCell ⟨bo, 0, none⟩ (.bool true)) W ∧ w.heap.size + 3 ≤ W.heap.size ∧ (W.cell? ⟨w.heap.size, 0, none⟩ = some (.int .u16 a0) ∧ W.cell? ⟨w.heap.size, 1, none⟩ = some (.int .u16 a1) ∧ W.cell? ⟨w.heap.size, 2, none⟩ = some (.int .u16 a2) ∧ W.cell? ⟨w.heap.size, 3, none⟩ = some (.int .u16 a3) ∧ W.cell? ⟨w.heap.size, 4, none⟩ = some (.int .u16 a4) ∧ W.cell? ⟨w.heap.size, 5, none⟩ = some (.int .u16 a5)) ∧ (W.cell? ⟨bt, 12, none⟩ = some (.int .u16 t0) ∧ W.cell? ⟨bt, 13, none⟩ = some (.int .u16 t1)) ∧ W.cell? ⟨bo, 0, none⟩ = some (.bool true) ∧ W.frozen? ⟨bo, 0, none⟩ = false ∧ (W.cell? ⟨w.heap.size + 1, 0, none⟩ = some (.int .u16 0) ∧ W.cell? ⟨w.heap.size + 1, 1, none⟩ = some (.int .u16 0) ∧ W.cell? ⟨w.heap.size + 1, 2, none⟩ = some (.int .u16 0) ∧ W.cell? ⟨w.heap.size + 1, 3, none⟩ = some (.int .u16 0) ∧ W.cell? ⟨w.heap.size + 1, 4, none⟩ = some (.int .u16 0) ∧ W.cell? ⟨w.heap.size + 1, 5, none⟩ = some (.int .u16 0)) ∧ (W.frozen? ⟨w.heap.size + 1, 0, none⟩ = false ∧ W.frozen? ⟨w.heap.size + 1, 1, none⟩ = false ∧ W.frozen? ⟨w.heap.size + 1, 2, none⟩ = false ∧ W.frozen? ⟨w.heap.size + 1, 3, none⟩ = false ∧ W.frozen? ⟨w.heap.size + 1, 4, none⟩ = false ∧ W.frozen? ⟨w.heap.size + 1, 5, none⟩ = false) ∧ (W.cell? ⟨w.heap.size + 1 + 1, 0, none⟩ = some (.int .u16 q0) ∧ W.cell? ⟨w.heap.size + 1 + 1, 1, none⟩ = some (.int .u16 q1) ∧ W.cell? ⟨w.heap.size + 1 + 1, 2, none⟩ = some (.int .u16 q2) ∧ W.cell? ⟨w.heap.size + 1 + 1, 3, none⟩ = some (.int .u16 q3) ∧ W.cell? ⟨w.heap.size + 1 + 1, 4, none⟩ = some (.int .u16 0) ∧ W.cell? ⟨w.heap.size + 1 + 1, 5, none⟩ = some (.int .u16 0)) ∧ (W.frozen? ⟨w.heap.size + 1 + 1, 0, none⟩ = false ∧ W.frozen? ⟨w.heap.size + 1 + 1, 1, none⟩ = false ∧ W.frozen? ⟨w.heap.size + 1 + 1, 2, none⟩ = false ∧ W.frozen? ⟨w.heap.size + 1 + 1, 3, none⟩ = false ∧ W.frozen? ⟨w.heap.size + 1 + 1, 4, none⟩ = false ∧ W.frozen? ⟨w.heap.size + 1 + 1, 5, none⟩ = false)) ⟨(bl_reset (x := .bool false) (bl_far (bl_far (bl_far (bl_far (hb1.trans (hbr2.mono (by omega))) (by omega)) (by omega)) (by omega)) (by omega))).drew, by (try simp only [World.size_alloc, World.size_setCell, World.size_drew]); omega, ⟨by go_simp, by go_simp, by go_simp, by go_simp, by go_simp, by go_simp⟩, ⟨by go_simp, by go_simp⟩, by go_simp, by go_simp, ⟨by go_simp, by go_simp, by go_simp, by go_simp, by go_simp, by go_simp⟩, ⟨by go_simp, by go_simp, by go_simp, by go_simp, by go_simp, by go_simp⟩, ⟨by go_simp, by go_simp, by go_simp, by go_simp, by go_simp, by go_simp⟩, ⟨by go_simp, by go_simp, by go_simp, by go_simp, by go_simp, by go_simp⟩⟩ ?_
  clear hb1 hz1 ht1_0 ht1_1 ho1 hof1 ha1_0 ha1_1 ha1_2 ha1_3 ha1_4 ha1_5 hr1_0 hr1_1 hr1_2 hr1_3 hr1_4 hr1_5 hrf1_0 hrf1_1 hrf1_2 hrf1_3 hrf1_4 hrf1_5 hq1_0 hq1_1 hq1_2 hq1_3 hq1_4 hq1_5 hqf1_0 hqf1_1 hqf1_2 hqf1_3 hqf1_4 hqf1_5 hcr2 hfr2 hbr2
  rintro W2 ⟨hb2, hz2, ⟨ha2_0, ha2_1, ha2_2, ha2_3, ha2_4, ha2_5⟩, ⟨ht2_0, ht2_1⟩, ho2, hof2, ⟨hr2_0, hr2_1, hr2_2, hr2_3, hr2_4, hr2_5⟩, ⟨hrf2_0, hrf2_1, hrf2_2, hrf2_3, hrf2_4, hrf2_5⟩, ⟨hq2_0, hq2_1, hq2_2, hq2_3, hq2_4, hq2_5⟩, ⟨hqf2_0, hqf2_1, hqf2_2, hqf2_3, hqf2_4, hqf2_5⟩⟩
  have l2_0 : w.heap.size < W2.heap.size := by omega
  have l2_1 : w.heap.size + 1 < W2.heap.size := by omega
  have l2_2 : w.heap.size + 1 + 1 < W2.heap.size := by omega
  have l2_3 : bt < W2.heap.size := by omega
  have l2_4 : bo < W2.heap.size := by omega
  try rw [rounds_succ]
  go_wp2_with fail
  have hecr3 := @Ext.cell2
  refine wp_region_floatl 9 8 _ _ _ _ _ (.cells #[.int .u16 0, .int .u16 0] 25) (by kernel_rfl) rfl rfl (by kernel_rfl) (by kernel_rfl) rfl rfl rfl rfl (fun _ _ => by simp [go_sem]) (fun _ _ d _ _ h => by cases d <;> exact h) (by kernel_rfl) (by kernel_rfl) rfl ?_
  apply Exists.intro
  refine ⟨fun W' => ?_, ?_⟩
  · simp only [List.take_succ_cons, List.take_zero]
    repeat (first | go_big_quiet_skip | (go_big_quiet_want; go_big_quiet_op; first | go_big_quiet_on | (go_big_quiet_call ((first | fail | (go_at_call 31; with_reducible exact ext_call (D2 _)))))))
    exact wpQuiet_nil rfl
  clear hecr3
  simp only [List.drop_succ_cons, List.drop_zero, Act.put, List.setIfInBounds_toArray, List.set_cons_zero, List.set_cons_succ]
  intro B3 r3 hbr3 hBr3 hDr3 hEr3
  have hGr3_0 := block_cell hEr3 0
  have hGr3_1 := block_cell hEr3 1
  have hFr3 := block_free hEr3
  simp only [List.getElem?_toArray, List.getElem?_cons_zero, List.getElem?_cons_succ] at hGr3_0 hGr3_1
  clear hEr3
  try simp only [World.size_alloc, World.size_setCell, World.size_drew] at hBr3
  obtain ⟨hcr3, hfr3⟩ := bcell hbr3
  have hzr3 := hbr3.size
  try simp only [World.size_alloc, World.size_setCell, World.size_drew] at hzr3
  have hlr3w0 : w.heap.size < r3.heap.size := by omega
  have hlr3w1 : w.heap.size + 1 < r3.heap.size := by omega
  have hlr3w2 : w.heap.size + 1 + 1 < r3.heap.size := by omega
  have hlr3bt : bt < r3.heap.size := by omega
  have hlr3bo : bo < r3.heap.size := by omega
  have e3_0 : B3 ≠ bo := by omega
  have e3_0' := Ne.symm e3_0
  have e3_1 : B3 ≠ w.heap.size + 1 + 1 := by omega
  have e3_1' := Ne.symm e3_1
  have e3_2 : B3 ≠ w.heap.size := by omega
  have e3_2' := Ne.symm e3_2
  have e3_3 : B3 ≠ w.heap.size + 1 := by omega
  have e3_3' := Ne.symm e3_3
  have e3_4 : B3 ≠ bt := by omega
  have e3_4' := Ne.symm e3_4
  go_wp2_with fail
  go_region
  go_wp2_with fail
  refine wp_gen (fun W => Below w.heap.size (w.setCell ⟨bo, 0, none⟩ (.bool true)) W ∧ w.heap.size + 3 ≤ W.heap.size ∧ (W.cell? ⟨w.heap.size, 0, none⟩ = some (.int .u16 a0) ∧ W.cell? ⟨w.heap.size, 1, none⟩ = some (.int .u16 a1) ∧ W.cell? ⟨w.heap.size, 2, none⟩ = some (.int .u16 a2) ∧ W.cell? ⟨w.heap.size, 3, none⟩ = some (.int .u16 a3) ∧ W.cell? ⟨w.heap.size, 4, none⟩ = some (.int .u16 a4) ∧ W.cell? ⟨w.heap.size, 5, none⟩ = some (.int .u16 a5)) ∧ (W.cell? ⟨bt, 12, none⟩ = some (.int .u16 t0) ∧ W.cell? ⟨bt, 13, none⟩ = some (.int .u16 t1)) ∧ W.cell? ⟨bo, 0, none⟩ = some (.bool true) ∧ W.frozen? ⟨bo, 0, none⟩ = false ∧ (W.cell? ⟨w.heap.size + 1, 0, none⟩ = some (.int .u16 0) ∧ W.cell? ⟨w.heap.size + 1, 1, none⟩ = some (.int .u16 0) ∧ W.cell? ⟨w.heap.size + 1, 2, none⟩ = some (.int .u16 0) ∧ W.cell? ⟨w.heap.size + 1, 3, none⟩ = some (.int .u16 0) ∧ W.cell? ⟨w.heap.size + 1, 4, none⟩ = some (.int .u16 0) ∧ W.cell? ⟨w.heap.size + 1, 5, none⟩ = some (.int .u16 0)) ∧ (W.frozen? ⟨w.heap.size + 1, 0, none⟩ = false ∧ W.frozen? ⟨w.heap.size + 1, 1, none⟩ = false ∧ W.frozen? ⟨w.heap.size + 1, 2, none⟩ = false ∧ W.frozen? ⟨w.heap.size + 1, 3, none⟩ = false ∧ W.frozen? ⟨w.heap.size + 1, 4, none⟩ = false ∧ W.frozen? ⟨w.heap.size + 1, 5, none⟩ = false) ∧ (W.cell? ⟨w.heap.size + 1 + 1, 0, none⟩ = some (.int .u16 q0) ∧ W.cell? ⟨w.heap.size + 1 + 1, 1, none⟩ = some (.int .u16 q1) ∧ W.cell? ⟨w.heap.size + 1 + 1, 2, none⟩ = some (.int .u16 q2) ∧ W.cell? ⟨w.heap.size + 1 + 1, 3, none⟩ = some (.int .u16 q3) ∧ W.cell? ⟨w.heap.size + 1 + 1, 4, none⟩ = some (.int .u16 q4) ∧ W.cell? ⟨w.heap.size + 1 + 1, 5, none⟩ = some (.int .u16 q5)) ∧ (W.frozen? ⟨w.heap.size + 1 + 1, 0, none⟩ = false ∧ W.frozen? ⟨w.heap.size + 1 + 1, 1, none⟩ = false ∧ W.frozen? ⟨w.heap.size + 1 + 1, 2, none⟩ = false ∧ W.frozen? ⟨w.heap.size + 1 + 1, 3, none⟩ = false ∧ W.frozen? ⟨w.heap.size + 1 + 1, 4, none⟩ = false ∧ W.frozen? ⟨w.heap.size + 1 + 1, 5, none⟩ = false)) ⟨(bl_reset (x := .bool true) (bl_far (bl_far (bl_far (bl_far (hb2.trans (hbr3.mono (by omega))) (by omega)) (by omega)) (by omega)) (by omega))).drew, by (try simp only [World.size_alloc, World.size_setCell, World.size_drew]); omega, ⟨by go_simp, by go_simp, by go_simp, by go_simp, by go_simp, by go_simp⟩, ⟨by go_simp, by go_simp⟩, by go_simp, by go_simp, ⟨by go_simp, by go_simp, by go_simp, by go_simp, by go_simp, by go_simp⟩, ⟨by go_simp, by go_simp, by go_simp, by go_simp, by go_simp, by go_simp⟩, ⟨by go_simp, by go_simp, by go_simp, by go_simp, by go_simp, by go_simp⟩, ⟨by go_simp, by go_simp, by go_simp, by go_simp, by go_simp, by go_simp⟩⟩ ?_
  clear hb2 hz2 ht2_0 ht2_1 ho2 hof2 ha2_0 ha2_1 ha2_2 ha2_3 ha2_4 ha2_5 hr2_0 hr2_1 hr2_2 hr2_3 hr2_4 hr2_5 hrf2_0 hrf2_1 hrf2_2 hrf2_3 hrf2_4 hrf2_5 hq2_0 hq2_1 hq2_2 hq2_3 hq2_4 hq2_5 hqf2_0 hqf2_1 hqf2_2 hqf2_3 hqf2_4 hqf2_5 hcr3 hfr3 hbr3
  rintro W3 ⟨hb3, hz3, ⟨ha3_0, ha3_1, ha3_2, ha3_3, ha3_4, ha3_5⟩, ⟨ht3_0, ht3_1⟩, ho3, hof3, ⟨hr3_0, hr3_1, hr3_2, hr3_3, hr3_4, hr3_5⟩, ⟨hrf3_0, hrf3_1, hrf3_2, hrf3_3, hrf3_4, hrf3_5⟩, ⟨hq3_0, hq3_1, hq3_2, hq3_3, hq3_4, hq3_5⟩, ⟨hqf3_0, hqf3_1, hqf3_2, hqf3_3, hqf3_4, hqf3_5⟩⟩
  try rw [rounds_succ]
  go_wp2
  refine bodyPost_ret (v := (.agg #[.int .u16 (q0), .int .u16 (q1), .int .u16 (q2), .int .u16 (q3), .int .u16 (q4), .int .u16 (q5)])) (by simp [results, Try.results30, go_sem, *]) rfl ⟨rfl, ?_⟩
  exact bl_far (bl_far (bl_far (bl_far (bl_far (bl_far hb3 (by omega)) (by omega)) (by omega)) (by omega)) (by omega)) (by omega)

set_option maxRecDepth 100000 in
set_option maxHeartbeats 4000000 in
theorem cdiv_2 (a0 a1 a2 a3 a4 a5 t0 t1 q0 q1 q2 q3 q4 q5 : Int) (o0 o1 o2 : Bool) (bt bo : Nat) (w : World) (htb : bt < w.heap.size) (hob : bo < w.heap.size) (hto : bt ≠ bo) (hT0 : w.cell? ⟨bt, 12, none⟩ = some (.int .u16 t0)) (hT1 : w.cell? ⟨bt, 13, none⟩ = some (.int .u16 t1)) (hO : w.cell? ⟨bo, 0, none⟩ = some (.bool false)) (hOf : w.frozen? ⟨bo, 0, none⟩ = false)
    (D0 : (∀ w, Calls Try.prog 31 #[(.agg #[.int .u16 (a0), .int .u16 (a1)]), (.agg #[.int .u16 (t0), .int .u16 (t1)])] w fun e w' => e = .returned (.tuple #[(.agg #[.int .u16 (q0), .int .u16 (q1)]), .bool false]) ∧ Below w.heap.size w w'))
    (D1 : (∀ w, Calls Try.prog 31 #[(.agg #[.int .u16 (a2), .int .u16 (a3)]), (.agg #[.int .u16 (t0), .int .u16 (t1)])] w fun e w' => e = .returned (.tuple #[(.agg #[.int .u16 (q2), .int .u16 (q3)]), .bool false]) ∧ Below w.heap.size w w'))
    (D2 : (∀ w, Calls Try.prog 31 #[(.agg #[.int .u16 (a4), .int .u16 (a5)]), (.agg #[.int .u16 (t0), .int .u16 (t1)])] w fun e w' => e = .returned (.tuple #[(.agg #[.int .u16 (q4), .int .u16 (q5)]), .bool o2]) ∧ Below w.heap.size w w')) :
    Calls Try.prog 30 #[(.agg #[.int .u16 (a0), .int .u16 (a1), .int .u16 (a2), .int .u16 (a3), .int .u16 (a4), .int .u16 (a5)]), .pointer (some ⟨bt, 0, none⟩), .pointer (some ⟨bo, 0, none⟩)] w fun e w' => e = .returned (.agg #[.int .u16 (q0), .int .u16 (q1), .int .u16 (q2), .int .u16 (q3), .int .u16 (q4), .int .u16 (q5)]) ∧ Below w.heap.size (w.setCell ⟨bo, 0, none⟩ (.bool o2)) w' := by
  have n0 : w.heap.size ≠ bo := by omega
  have n0' := Ne.symm n0
  have n1 : w.heap.size + 1 ≠ bo := by omega
  have n1' := Ne.symm n1
  have n2 : w.heap.size + 1 + 1 ≠ bo := by omega
  have n2' := Ne.symm n2
  have hto' := Ne.symm hto
  have n3 : w.heap.size ≠ bt := by omega
  have n3' := Ne.symm n3
  have n4 : w.heap.size + 1 ≠ bt := by omega
  have n4' := Ne.symm n4
  have n5 : w.heap.size + 1 + 1 ≠ bt := by omega
  have n5' := Ne.symm n5
  go_enter Try.func30, Try.ntmps30
  go_wp2_with fail
  refine wp_gen (fun W => Below w.heap.size (w.setCell ⟨bo, 0, none⟩ (.bool false)) W ∧ w.heap.size + 3 ≤ W.heap.size ∧ (W.cell? ⟨w.heap.size, 0, none⟩ = some (.int .u16 a0) ∧ W.cell? ⟨w.heap.size, 1, none⟩ = some (.int .u16 a1) ∧ W.cell? ⟨w.heap.size, 2, none⟩ = some (.int .u16 a2) ∧ W.cell? ⟨w.heap.size, 3, none⟩ = some (.int .u16 a3) ∧ W.cell? ⟨w.heap.size, 4, none⟩ = some (.int .u16 a4) ∧ W.cell? ⟨w.heap.size, 5, none⟩ = some (.int .u16 a5)) ∧ (W.cell? ⟨bt, 12, none⟩ = some (.int .u16 t0) ∧ W.cell? ⟨bt, 13, none⟩ = some (.int .u16 t1)) ∧ W.cell? ⟨bo, 0, none⟩ = some (.bool false) ∧ W.frozen? ⟨bo, 0, none⟩ = false ∧ (W.cell? ⟨w.heap.size + 1, 0, none⟩ = some (.int .u16 0) ∧ W.cell? ⟨w.heap.size + 1, 1, none⟩ = some (.int .u16 0) ∧ W.cell? ⟨w.heap.size + 1, 2, none⟩ = some (.int .u16 0) ∧ W.cell? ⟨w.heap.size + 1, 3, none⟩ = some (.int .u16 0) ∧ W.cell? ⟨w.heap.size + 1, 4, none⟩ = some (.int .u16 0) ∧ W.cell? ⟨w.heap.size + 1, 5, none⟩ = some (.int .u16 0)) ∧ (W.frozen? ⟨w.heap.size + 1, 0, none⟩ = false ∧ W.frozen? ⟨w.heap.size + 1, 1, none⟩ = false ∧ W.frozen? ⟨w.heap.size + 1, 2, none⟩ = false ∧ W.frozen? ⟨w.heap.size + 1, 3, none⟩ = false ∧ W.frozen? ⟨w.heap.size + 1, 4, none⟩ = false ∧ W.frozen? ⟨w.heap.size + 1, 5, none⟩ = false) ∧ (W.cell? ⟨w.heap.size + 1 + 1, 0, none⟩ = some (.int .u16 0) ∧ W.cell? ⟨w.heap.size + 1 + 1, 1, none⟩ = some (.int .u16 0) ∧ W.cell? ⟨w.heap.size + 1 + 1, 2, none⟩ = some (.int .u16 0) ∧ W.cell? ⟨w.heap.size + 1 + 1, 3, none⟩ = some (.int .u16 0) ∧ W.cell? ⟨w.heap.size + 1 + 1, 4, none⟩ = some (.int .u16 0) ∧ W.cell? ⟨w.heap.size + 1 + 1, 5, none⟩ = some (.int .u16 0)) ∧ (W.frozen? ⟨w.heap.size + 1 + 1, 0, none⟩ = false ∧ W.frozen? ⟨w.heap.size + 1 + 1, 1, none⟩ = false ∧ W.frozen? ⟨w.heap.size + 1 + 1, 2, none⟩ = false ∧ W.frozen? ⟨w.heap.size + 1 + 1, 3, none⟩ = false ∧ W.frozen? ⟨w.heap.size + 1 + 1, 4, none⟩ = false ∧ W.frozen? ⟨w.heap.size + 1 + 1, 5, none⟩ = false)) ⟨by rw [setCell_id hO]; exact (by repeat' (first | (with_reducible exact Below.refl _ _) | (with_reducible refine bl_set ?_ _ ?_) | (with_reducible refine bl_alloc ?_ _) | (with_reducible refine bl_drew ?_) | (with_reducible refine bl_via (by with_reducible assumption) ?_) | (with_reducible assumption) | omega | (simp only []; omega) | (simp; omega))), by simp, ⟨by go_simp, by go_simp, by go_simp, by go_simp, by go_simp, by go_simp⟩, ⟨(World.cell?_alloc_lt _ _ _ (by simp only [World.size_alloc]; omega)).trans ((World.cell?_alloc_lt _ _ _ (by simp only [World.size_alloc]; omega)).trans ((World.cell?_alloc_lt _ _ _ (by omega)).trans hT0)), (World.cell?_alloc_lt _ _ _ (by simp only [World.size_alloc]; omega)).trans ((World.cell?_alloc_lt _ _ _ (by simp only [World.size_alloc]; omega)).trans ((World.cell?_alloc_lt _ _ _ (by omega)).trans hT1))⟩, (World.cell?_alloc_lt _ _ _ (by simp only [World.size_alloc]; omega)).trans ((World.cell?_alloc_lt _ _ _ (by simp only [World.size_alloc]; omega)).trans ((World.cell?_alloc_lt _ _ _ (by omega)).trans hO)), ((bl_alloc (bl_alloc (bl_alloc (Below.refl _ _) _) _) _).frozen (p := ⟨bo, 0, none⟩) hob).trans hOf, ⟨by go_simp, by go_simp, by go_simp, by go_simp, by go_simp, by go_simp⟩, ⟨by go_simp, by go_simp, by go_simp, by go_simp, by go_simp, by go_simp⟩, ⟨by go_simp, by go_simp, by go_simp, by go_simp, by go_simp, by go_simp⟩, ⟨by go_simp, by go_simp, by go_simp, by go_simp, by go_simp, by go_simp⟩⟩ ?_
  rintro W0 ⟨hb0, hz0, ⟨ha0_0, ha0_1, ha0_2, ha0_3, ha0_4, ha0_5⟩, ⟨ht0_0, ht0_1⟩, ho0, hof0, ⟨hr0_0, hr0_1, hr0_2, hr0_3, hr0_4, hr0_5⟩, ⟨hrf0_0, hrf0_1, hrf0_2, hrf0_3, hrf0_4, hrf0_5⟩, ⟨hq0_0, hq0_1, hq0_2, hq0_3, hq0_4, hq0_5⟩, ⟨hqf0_0, hqf0_1, hqf0_2, hqf0_3, hqf0_4, hqf0_5⟩⟩
  refine wp_loop_rounds 4 ?_
  have l0_0 : w.heap.size < W0.heap.size := by omega
  have l0_1 : w.heap.size + 1 < W0.heap.size := by omega
  have l0_2 : w.heap.size + 1 + 1 < W0.heap.size := by omega
  have l0_3 : bt < W0.heap.size := by omega
  have l0_4 : bo < W0.heap.size := by omega
  try rw [rounds_succ]
  go_wp2_with fail
  have hecr1 := @Ext.cell2
  refine wp_region_floatl 9 8 _ _ _ _ _ (.cells #[.int .u16 0, .int .u16 0] 25) (by kernel_rfl) rfl rfl (by kernel_rfl) (by kernel_rfl) rfl rfl rfl rfl (fun _ _ => by simp [go_sem]) (fun _ _ d _ _ h => by cases d <;> exact h) (by kernel_rfl) (by kernel_rfl) rfl ?_
  apply Exists.intro
  refine ⟨fun W' => ?_, ?_⟩
  · simp only [List.take_succ_cons, List.take_zero]
    repeat (first | go_big_quiet_skip | (go_big_quiet_want; go_big_quiet_op; first | go_big_quiet_on | (go_big_quiet_call ((first | fail | (go_at_call 31; with_reducible exact ext_call (D0 _)))))))
    exact wpQuiet_nil rfl
  clear hecr1
  simp only [List.drop_succ_cons, List.drop_zero, Act.put, List.setIfInBounds_toArray, List.set_cons_zero, List.set_cons_succ]
  intro B1 r1 hbr1 hBr1 hDr1 hEr1
  have hGr1_0 := block_cell hEr1 0
  have hGr1_1 := block_cell hEr1 1
  have hFr1 := block_free hEr1
  simp only [List.getElem?_toArray, List.getElem?_cons_zero, List.getElem?_cons_succ] at hGr1_0 hGr1_1
  clear hEr1
  try simp only [World.size_alloc, World.size_setCell, World.size_drew] at hBr1
  obtain ⟨hcr1, hfr1⟩ := bcell hbr1
  have hzr1 := hbr1.size
  try simp only [World.size_alloc, World.size_setCell, World.size_drew] at hzr1
  have hlr1w0 : w.heap.size < r1.heap.size := by omega
  have hlr1w1 : w.heap.size + 1 < r1.heap.size := by omega
  have hlr1w2 : w.heap.size + 1 + 1 < r1.heap.size := by omega
  have hlr1bt : bt < r1.heap.size := by omega
  have hlr1bo : bo < r1.heap.size := by omega
  have e1_0 : B1 ≠ bo := by omega
  have e1_0' := Ne.symm e1_0
  have e1_1 : B1 ≠ w.heap.size + 1 + 1 := by omega
  have e1_1' := Ne.symm e1_1
  have e1_2 : B1 ≠ w.heap.size := by omega
  have e1_2' := Ne.symm e1_2
  have e1_3 : B1 ≠ w.heap.size + 1 := by omega
  have e1_3' := Ne.symm e1_3
  have e1_4 : B1 ≠ bt := by omega
  have e1_4' := Ne.symm e1_4
  go_wp2_with fail
  go_region
  go_wp2_with fail
  refine wp_gen (fun W => Below w.heap.size (w.setCell ⟨bo, 0, none⟩ (.bool false)) W ∧ w.heap.size + 3 ≤ W.heap.size ∧ (W.cell? ⟨w.heap.size, 0, none⟩ = some (.int .u16 a0) ∧ W.cell? ⟨w.heap.size, 1, none⟩ = some (.int .u16 a1) ∧ W.cell? ⟨w.heap.size, 2, none⟩ = some (.int .u16 a2) ∧ W.cell? ⟨w.heap.size, 3, none⟩ = some (.int .u16 a3) ∧ W.cell? ⟨w.heap.size, 4, none⟩ = some (.int .u16 a4) ∧ W.cell? ⟨w.heap.size, 5, none⟩ = some (.int .u16 a5)) ∧ (W.cell? ⟨bt, 12, none⟩ = some (.int .u16 t0) ∧ W.cell? ⟨bt, 13, none⟩ = some (.int .u16 t1)) ∧ W.cell? ⟨bo, 0, none⟩ = some (.bool false) ∧ W.frozen? ⟨bo, 0, none⟩ = false ∧ (W.cell? ⟨w.heap.size + 1, 0, none⟩ = some (.int .u16 0) ∧ W.cell? ⟨w.heap.size + 1, 1, none⟩ = some (.int .u16 0) ∧ W.cell? ⟨w.heap.size + 1, 2, none⟩ = some (.int .u16 0) ∧ W.cell? ⟨w.heap.size + 1, 3, none⟩ = some (.int .u16 0) ∧ W.cell? ⟨w.heap.size + 1, 4, none⟩ = some (.int .u16 0) ∧ W.cell? ⟨w.heap.size + 1, 5, none⟩ = some (.int .u16 0)) ∧ (W.frozen? ⟨w.heap.size + 1, 0, none⟩ = false ∧ W.frozen? ⟨w.heap.size + 1, 1, none⟩ = false ∧ W.frozen? ⟨w.heap.size + 1, 2, none⟩ = false ∧ W.frozen? ⟨w.heap.size + 1, 3, none⟩ = false ∧ W.frozen? ⟨w.heap.size + 1, 4, none⟩ = false ∧ W.frozen? ⟨w.heap.size + 1, 5, none⟩ = false) ∧ (W.cell? ⟨w.heap.size + 1 + 1, 0, none⟩ = some (.int .u16 q0) ∧ W.cell? ⟨w.heap.size + 1 + 1, 1, none⟩ = some (.int .u16 q1) ∧ W.cell? ⟨w.heap.size + 1 + 1, 2, none⟩ = some (.int .u16 0) ∧ W.cell? ⟨w.heap.size + 1 + 1, 3, none⟩ = some (.int .u16 0) ∧ W.cell? ⟨w.heap.size + 1 + 1, 4, none⟩ = some (.int .u16 0) ∧ W.cell? ⟨w.heap.size + 1 + 1, 5, none⟩ = some (.int .u16 0)) ∧ (W.frozen? ⟨w.heap.size + 1 + 1, 0, none⟩ = false ∧ W.frozen? ⟨w.heap.size + 1 + 1, 1, none⟩ = false ∧ W.frozen? ⟨w.heap.size + 1 + 1, 2, none⟩ = false ∧ W.frozen? ⟨w.heap.size + 1 + 1, 3, none⟩ = false ∧ W.frozen? ⟨w.heap.size + 1 + 1, 4, none⟩ = false ∧ W.frozen? ⟨w.heap.size + 1 + 1, 5, none⟩ = false)) ⟨(bl_reset (x := .bool false) (bl_far (bl_far (bl_far (bl_far (hb0.trans (hbr1.mono (by omega))) (by omega)) (by omega)) (by omega)) (by omega))).drew, by (try simp only [World.size_alloc, World.size_setCell, World.size_drew]); omega, ⟨by go_simp, by go_simp, by go_simp, by go_simp, by go_simp, by go_simp⟩, ⟨by go_simp, by go_simp⟩, by go_simp, by go_simp, ⟨by go_simp, by go_simp, by go_simp, by go_simp, by go_simp, by go_simp⟩, ⟨by go_simp, by go_simp, by go_simp, by go_simp, by go_simp, by go_simp⟩, ⟨by go_simp, by go_simp, by go_simp, by go_simp, by go_simp, by go_simp⟩, ⟨by go_simp, by go_simp, by go_simp, by go_simp, by go_simp, by go_simp⟩⟩ ?_
  clear hb0 hz0 ht0_0 ht0_1 ho0 hof0 ha0_0 ha0_1 ha0_2 ha0_3 ha0_4 ha0_5 hr0_0 hr0_1 hr0_2 hr0_3 hr0_4 hr0_5 hrf0_0 hrf0_1 hrf0_2 hrf0_3 hrf0_4 hrf0_5 hq0_0 hq0_1 hq0_2 hq0_3 hq0_4 hq0_5 hqf0_0 hqf0_1 hqf0_2 hqf0_3 hqf0_4 hqf0_5 hcr1 hfr1 hbr1
  rintro W1 ⟨hb1, hz1, ⟨ha1_0, ha1_1, ha1_2, ha1_3, ha1_4, ha1_5⟩, ⟨ht1_0, ht1_1⟩, ho1, hof1, ⟨hr1_0, hr1_1, hr1_2, hr1_3, hr1_4, hr1_5⟩, ⟨hrf1_0, hrf1_1, hrf1_2, hrf1_3, hrf1_4, hrf1_5⟩, ⟨hq1_0, hq1_1, hq1_2, hq1_3, hq1_4, hq1_5⟩, ⟨hqf1_0, hqf1_1, hqf1_2, hqf1_3, hqf1_4, hqf1_5⟩⟩
  have l1_0 : w.heap.size < W1.heap.size := by omega
  have l1_1 : w.heap.size + 1 < W1.heap.size := by omega
  have l1_2 : w.heap.size + 1 + 1 < W1.heap.size := by omega
  have l1_3 : bt < W1.heap.size := by omega
  have l1_4 : bo < W1.heap.size := by omega
  try rw [rounds_succ]
  go_wp2_with fail
  have hecr2 := @Ext.cell2
  refine wp_region_floatl 9 8 _ _ _ _ _ (.cells #[.int .u16 0, .int .u16 0] 25) (by kernel_rfl) rfl rfl (by kernel_rfl) (by kernel_rfl) rfl rfl rfl rfl (fun _ _ => by simp [go_sem]) (fun _ _ d _ _ h => by cases d <;> exact h) (by kernel_rfl) (by kernel_rfl) rfl ?_
  apply Exists.intro
  refine ⟨fun W' => ?_, ?_⟩
  · simp only [List.take_succ_cons, List.take_zero]
    repeat (first | go_big_quiet_skip | (go_big_quiet_want; go_big_quiet_op; first | go_big_quiet_on | (go_big_quiet_call ((first | fail | (go_at_call 31; with_reducible exact ext_call (D1 _)))))))
    exact wpQuiet_nil rfl
  clear hecr2
  simp only [List.drop_succ_cons, List.drop_zero, Act.put, List.setIfInBounds_toArray, List.set_cons_zero, List.set_cons_succ]
  intro B2 r2 hbr2 hBr2 hDr2 hEr2
  have hGr2_0 := block_cell hEr2 0
  have hGr2_1 := block_cell hEr2 1
  have hFr2 := block_free hEr2
  simp only [List.getElem?_toArray, List.getElem?_cons_zero, List.getElem?_cons_succ] at hGr2_0 hGr2_1
  clear hEr2
  try simp only [World.size_alloc, World.size_setCell, World.size_drew] at hBr2
  obtain ⟨hcr2, hfr2⟩ := bcell hbr2
  have hzr2 := hbr2.size
  try simp only [World.size_alloc, World.size_setCell, World.size_drew] at hzr2
  have hlr2w0 : w.heap.size < r2.heap.size := by omega
  have hlr2w1 : w.heap.size + 1 < r2.heap.size := by omega
  have hlr2w2 : w.heap.size + 1 + 1 < r2.heap.size := by omega
  have hlr2bt : bt < r2.heap.size := by omega
  have hlr2bo : bo < r2.heap.size := by omega
  have e2_0 : B2 ≠ bo := by omega
  have e2_0' := Ne.symm e2_0
  have e2_1 : B2 ≠ w.heap.size + 1 + 1 := by omega
  have e2_1' := Ne.symm e2_1
  have e2_2 : B2 ≠ w.heap.size := by omega
  have e2_2' := Ne.symm e2_2
  have e2_3 : B2 ≠ w.heap.size + 1 := by omega
  have e2_3' := Ne.symm e2_3
  have e2_4 : B2 ≠ bt := by omega
  have e2_4' := Ne.symm e2_4
  go_wp2_with fail
  go_region
  go_wp2_with fail
  refine wp_gen (fun W => Below w.heap.size (w.setCell ⟨bo, 0, none⟩ (.bool false)) W ∧ w.heap.size + 3 ≤ W.heap.size ∧ (W.cell? ⟨w.heap.size, 0, none⟩ = some (.int .u16 a0) ∧ W.cell? ⟨w.heap.size, 1, none⟩ = some (.int .u16 a1) ∧ W.cell? ⟨w.heap.size, 2, none⟩ = some (.int .u16 a2) ∧ W.cell? ⟨w.heap.size, 3, none⟩ = some (.int .u16 a3) ∧ W.cell? ⟨w.heap.size, 4, none⟩ = some (.int .u16 a4) ∧ W.cell? ⟨w.heap.size, 5, none⟩ = some (.int .u16 a5)) ∧ (W.cell? ⟨bt, 12, none⟩ = some (.int .u16 t0) ∧ W.cell? ⟨bt, 13, none⟩ = some (.int .u16 t1)) ∧ W.cell? ⟨bo, 0, none⟩ = some (.bool false) ∧ W.frozen? ⟨bo, 0, none⟩ = false ∧ (W.cell? ⟨w.heap.size + 1, 0, none⟩ = some (.int .u16 0) ∧ W.cell? ⟨w.heap.size + 1, 1, none⟩ = some (.int .u16 0) ∧ W.cell? ⟨w.heap.size + 1, 2, none⟩ = some (.int .u16 0) ∧ W.cell? ⟨w.heap.size + 1, 3, none⟩ = some (.int .u16 0) ∧ W.cell? ⟨w.heap.size + 1, 4, none⟩ = some (.int .u16 0) ∧ W.cell? ⟨w.heap.size + 1, 5, none⟩ = some (.int .u16 0)) ∧ (W.frozen? ⟨w.heap.size + 1, 0, none⟩ = false ∧ W.frozen? ⟨w.heap.size + 1, 1, none⟩ = false ∧ W.frozen? ⟨w.heap.size + 1, 2, none⟩ = false ∧ W.frozen? ⟨w.heap.size + 1, 3, none⟩ = false ∧ W.frozen? ⟨w.heap.size + 1, 4, none⟩ = false ∧ W.frozen? ⟨w.heap.size + 1, 5, none⟩ = false) ∧ (W.cell? ⟨w.heap.size + 1 + 1, 0, none⟩ = some (.int .u16 q0) ∧ W.cell? ⟨w.heap.size + 1 + 1, 1, none⟩ = some (.int .u16 q1) ∧ W.cell? ⟨w.heap.size + 1 + 1, 2, none⟩ = some (.int .u16 q2) ∧ W.cell? ⟨w.heap.size + 1 + 1, 3, none⟩ = some (.int .u16 q3) ∧ W.cell? ⟨w.heap.size + 1 + 1, 4, none⟩ = some (.int .u16 0) ∧ W.cell? ⟨w.heap.size + 1 + 1, 5, none⟩ = some (.int .u16 0)) ∧ (W.frozen? ⟨w.heap.size + 1 + 1, 0, none⟩ = false ∧ W.frozen? ⟨w.heap.size + 1 + 1, 1, none⟩ = false ∧ W.frozen? ⟨w.heap.size + 1 + 1, 2, none⟩ = false ∧ W.frozen? ⟨w.heap.size + 1 + 1, 3, none⟩ = false ∧ W.frozen? ⟨w.heap.size + 1 + 1, 4, none⟩ = false ∧ W.frozen? ⟨w.heap.size + 1 + 1, 5, none⟩ = false)) ⟨(bl_reset (x := .bool false) (bl_far (bl_far (bl_far (bl_far (hb1.trans (hbr2.mono (by omega))) (by omega)) (by omega)) (by omega)) (by omega))).drew, by (try simp only [World.size_alloc, World.size_setCell, World.size_drew]); omega, ⟨by go_simp, by go_simp, by go_simp, by go_simp, by go_simp, by go_simp⟩, ⟨by go_simp, by go_simp⟩, by go_simp, by go_simp, ⟨by go_simp, by go_simp, by go_simp, by go_simp, by go_simp, by go_simp⟩, ⟨by go_simp, by go_simp, by go_simp, by go_simp, by go_simp, by go_simp⟩, ⟨by go_simp, by go_simp, by go_simp, by go_simp, by go_simp, by go_simp⟩, ⟨by go_simp, by go_simp, by go_simp, by go_simp, by go_simp, by go_simp⟩⟩ ?_
  clear hb1 hz1 ht1_0 ht1_1 ho1 hof1 ha1_0 ha1_1 ha1_2 ha1_3 ha1_4 ha1_5 hr1_0 hr1_1 hr1_2 hr1_3 hr1_4 hr1_5 hrf1_0 hrf1_1 hrf1_2 hrf1_3 hrf1_4 hrf1_5 hq1_0 hq1_1 hq1_2 hq1_3 hq1_4 hq1_5 hqf1_0 hqf1_1 hqf1_2 hqf1_3 hqf1_4 hqf1_5 hcr2 hfr2 hbr2
  rintro W2 ⟨hb2, hz2, ⟨ha2_0, ha2_1, ha2_2, ha2_3, ha2_4, ha2_5⟩, ⟨ht2_0, ht2_1⟩, ho2, hof2, ⟨hr2_0, hr2_1, hr2_2, hr2_3, hr2_4, hr2_5⟩, ⟨hrf2_0, hrf2_1, hrf2_2, hrf2_3, hrf2_4, hrf2_5⟩, ⟨hq2_0, hq2_1, hq2_2, hq2_3, hq2_4, hq2_5⟩, ⟨hqf2_0, hqf2_1, hqf2_2, hqf2_3, hqf2_4, hqf2_5⟩⟩
  have l2_0 : w.heap.size < W2.heap.size := by omega
  have l2_1 : w.heap.size + 1 < W2.heap.size := by omega
  have l2_2 : w.heap.size + 1 + 1 < W2.heap.size := by omega
  have l2_3 : bt < W2.heap.size := by omega
  have l2_4 : bo < W2.heap.size := by omega
  try rw [rounds_succ]
  go_wp2_with fail
  have hecr3 := @Ext.cell2
  refine wp_region_floatl 9 8 _ _ _ _ _ (.cells #[.int .u16 0, .int .u16 0] 25) (by kernel_rfl) rfl rfl (by kernel_rfl) (by kernel_rfl) rfl rfl rfl rfl (fun _ _ => by simp [go_sem]) (fun _ _ d _ _ h => by cases d <;> exact h) (by kernel_rfl) (by kernel_rfl) rfl ?_
  apply Exists.intro
  refine ⟨fun W' => ?_, ?_⟩
  · simp only [List.take_succ_cons, List.take_zero]
    repeat (first | go_big_quiet_skip | (go_big_quiet_want; go_big_quiet_op; first | go_big_quiet_on | (go_big_quiet_call ((first | fail | (go_at_call 31; with_reducible exact ext_call (D2 _)))))))
    exact wpQuiet_nil rfl
  clear hecr3
  simp only [List.drop_succ_cons, List.drop_zero, Act.put, List.setIfInBounds_toArray, List.set_cons_zero, List.set_cons_succ]
  intro B3 r3 hbr3 hBr3 hDr3 hEr3
  have hGr3_0 := block_cell hEr3 0
  have hGr3_1 := block_cell hEr3 1
  have hFr3 := block_free hEr3
  simp only [List.getElem?_toArray, List.getElem?_cons_zero, List.getElem?_cons_succ] at hGr3_0 hGr3_1
  clear hEr3
  try simp only [World.size_alloc, World.size_setCell, World.size_drew] at hBr3
  obtain ⟨hcr3, hfr3⟩ := bcell hbr3
  have hzr3 := hbr3.size
  try simp only [World.size_alloc, World.size_setCell, World.size_drew] at hzr3
  have hlr3w0 : w.heap.size < r3.heap.size := by omega
  have hlr3w1 : w.heap.size + 1 < r3.heap.size := by omega
  have hlr3w2 : w.heap.size + 1 + 1 < r3.heap.size := by omega
  have hlr3bt : bt < r3.heap.size := by omega
  have hlr3bo : bo < r3.heap.size := by omega
  have e3_0 : B3 ≠ bo := by omega
  have e3_0' := Ne.symm e3_0
  have e3_1 : B3 ≠ w.heap.size + 1 + 1 := by omega
  have e3_1' := Ne.symm e3_1
  have e3_2 : B3 ≠ w.heap.size := by omega
  have e3_2' := Ne.symm e3_2
  have e3_3 : B3 ≠ w.heap.size + 1 := by omega
  have e3_3' := Ne.symm e3_3
  have e3_4 : B3 ≠ bt := by omega
  have e3_4' := Ne.symm e3_4
  go_wp2_with fail
  go_region
  go_wp2_with fail
  refine wp_gen (fun W => Below w.heap.size (w.setCell ⟨bo, 0, none⟩ (.bool o2)) W ∧ w.heap.size + 3 ≤ W.heap.size ∧ (W.cell? ⟨w.heap.size, 0, none⟩ = some (.int .u16 a0) ∧ W.cell? ⟨w.heap.size, 1, none⟩ = some (.int .u16 a1) ∧ W.cell? ⟨w.heap.size, 2, none⟩ = some (.int .u16 a2) ∧ W.cell? ⟨w.heap.size, 3, none⟩ = some (.int .u16 a3) ∧ W.cell? ⟨w.heap.size, 4, none⟩ = some (.int .u16 a4) ∧ W.cell? ⟨w.heap.size, 5, none⟩ = some (.int .u16 a5)) ∧ (W.cell? ⟨bt, 12, none⟩ = some (.int .u16 t0) ∧ W.cell? ⟨bt, 13, none⟩ = some (.int .u16 t1)) ∧ W.cell? ⟨bo, 0, none⟩ = some (.bool o2) ∧ W.frozen? ⟨bo, 0, none⟩ = false ∧ (W.cell? ⟨w.heap.size + 1, 0, none⟩ = some (.int .u16 0) ∧ W.cell? ⟨w.heap.size + 1, 1, none⟩ = some (.int .u16 0) ∧ W.cell? ⟨w.heap.size + 1, 2, none⟩ = some (.int .u16 0) ∧ W.cell? ⟨w.heap.size + 1, 3, none⟩ = some (.int .u16 0) ∧ W.cell? ⟨w.heap.size + 1, 4, none⟩ = some (.int .u16 0) ∧ W.cell? ⟨w.heap.size + 1, 5, none⟩ = some (.int .u16 0)) ∧ (W.frozen? ⟨w.heap.size + 1, 0, none⟩ = false ∧ W.frozen? ⟨w.heap.size + 1, 1, none⟩ = false ∧ W.frozen? ⟨w.heap.size + 1, 2, none⟩ = false ∧ W.frozen? ⟨w.heap.size + 1, 3, none⟩ = false ∧ W.frozen? ⟨w.heap.size + 1, 4, none⟩ = false ∧ W.frozen? ⟨w.heap.size + 1, 5, none⟩ = false) ∧ (W.cell? ⟨w.heap.size + 1 + 1, 0, none⟩ = some (.int .u16 q0) ∧ W.cell? ⟨w.heap.size + 1 + 1, 1, none⟩ = some (.int .u16 q1) ∧ W.cell? ⟨w.heap.size + 1 + 1, 2, none⟩ = some (.int .u16 q2) ∧ W.cell? ⟨w.heap.size + 1 + 1, 3, none⟩ = some (.int .u16 q3) ∧ W.cell? ⟨w.heap.size + 1 + 1, 4, none⟩ = some (.int .u16 q4) ∧ W.cell? ⟨w.heap.size + 1 + 1, 5, none⟩ = some (.int .u16 q5)) ∧ (W.frozen? ⟨w.heap.size + 1 + 1, 0, none⟩ = false ∧ W.frozen? ⟨w.heap.size + 1 + 1, 1, none⟩ = false ∧ W.frozen? ⟨w.heap.size + 1 + 1, 2, none⟩ = false ∧ W.frozen? ⟨w.heap.size + 1 + 1, 3, none⟩ = false ∧ W.frozen? ⟨w.heap.size + 1 + 1, 4, none⟩ = false ∧ W.frozen? ⟨w.heap.size + 1 + 1, 5, none⟩ = false)) ⟨(bl_reset (x := .bool false) (bl_far (bl_far (bl_far (bl_far (hb2.trans (hbr3.mono (by omega))) (by omega)) (by omega)) (by omega)) (by omega))).drew, by (try simp only [World.size_alloc, World.size_setCell, World.size_drew]); omega, ⟨by go_simp, by go_simp, by go_simp, by go_simp, by go_simp, by go_simp⟩, ⟨by go_simp, by go_simp⟩, by go_simp, by go_simp, ⟨by go_simp, by go_simp, by go_simp, by go_simp, by go_simp, by go_simp⟩, ⟨by go_simp, by go_simp, by go_simp, by go_simp, by go_simp, by go_simp⟩, ⟨by go_simp, by go_simp, by go_simp, by go_simp, by go_simp, by go_simp⟩, ⟨by go_simp, by go_simp, by go_simp, by go_simp, by go_simp, by go_simp⟩⟩ ?_
  clear hb2 hz2 ht2_0 ht2_1 ho2 hof2 ha2_0 ha2_1 ha2_2 ha2_3 ha2_4 ha2_5 hr2_0 hr2_1 hr2_2 hr2_3 hr2_4 hr2_5 hrf2_0 hrf2_1 hrf2_2 hrf2_3 hrf2_4 hrf2_5 hq2_0 hq2_1 hq2_2 hq2_3 hq2_4 hq2_5 hqf2_0 hqf2_1 hqf2_2 hqf2_3 hqf2_4 hqf2_5 hcr3 hfr3 hbr3
  rintro W3 ⟨hb3, hz3, ⟨ha3_0, ha3_1, ha3_2, ha3_3, ha3_4, ha3_5⟩, ⟨ht3_0, ht3_1⟩, ho3, hof3, ⟨hr3_0, hr3_1, hr3_2, hr3_3, hr3_4, hr3_5⟩, ⟨hrf3_0, hrf3_1, hrf3_2, hrf3_3, hrf3_4, hrf3_5⟩, ⟨hq3_0, hq3_1, hq3_2, hq3_3, hq3_4, hq3_5⟩, ⟨hqf3_0, hqf3_1, hqf3_2, hqf3_3, hqf3_4, hqf3_5⟩⟩
  try rw [rounds_succ]
  go_wp2
  refine bodyPost_ret (v := (.agg #[.int .u16 (q0), .int .u16 (q1), .int .u16 (q2), .int .u16 (q3), .int .u16 (q4), .int .u16 (q5)])) (by simp [results, Try.results30, go_sem, *]) rfl ⟨rfl, ?_⟩
  exact bl_far (bl_far (bl_far (bl_far (bl_far (bl_far hb3 (by omega)) (by omega)) (by omega)) (by omega)) (by omega)) (by omega)
end Go.Proofs.Ytpmocegfiniafaa
