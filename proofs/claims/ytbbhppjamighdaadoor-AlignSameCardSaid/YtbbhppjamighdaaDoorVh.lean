/- Contracts of package vector over this translation: Shift. -/
import Derived.Test.YtbbhppjamighdaaDoorVa
import Derived.Test.YtbbhppjamighdaaDoorFa
import Derived.Test.YtbbhppjamighdaaDoorDb
namespace Go.Proofs.YtbbhppjamighdaaDoor
set_option linter.unusedSimpArgs false
set_option linter.unusedVariables false
open Go.RowKit

theorem cfar_h (w : World) (p a : Addr) (v : Value) (h : p.block ≠ a.block) : (w.setCell p v).cell? a = w.cell? a := World.cell?_setCell_other _ _ _ _ (fun e => h (congrArg Addr.block e))

set_option maxHeartbeats 400000 in
theorem shiftc_any (x y z u n : Int) (bn : Nat) (hx0 : 0 ≤ x) (hx1 : x < 65536) (hy0 : 0 ≤ y) (hy1 : y < 65536) (hn0 : -9223372036854775808 ≤ n) (hn1 : n ≤ 9223372036854775807) (w : World) (hc : w.cell? ⟨bn, 0, none⟩ = some (.int .i64 n)) (hb : bn < w.heap.size) :
    Calls Tryd.prog 79 #[(.agg #[.int .u16 (x), .int .u16 (y)]), (.agg #[.int .u16 (z), .int .u16 (u)]), .pointer (some ⟨bn, 0, none⟩)] w fun e w' => e = .returned (.tuple #[(.agg #[.int .u16 (hi (shv (val x y) n)), .int .u16 (lo (shv (val x y) n))]), .bool (sho (val x y) n)]) ∧ Below w.heap.size w w' := by
  have g0 : bn ≠ w.heap.size := by omega
  have g0' : w.heap.size ≠ bn := by omega
  have g1 : bn ≠ w.heap.size + 1 := by omega
  have g1' : w.heap.size + 1 ≠ bn := by omega
  have g2 : bn ≠ w.heap.size + 1 + 1 := by omega
  have g2' : w.heap.size + 1 + 1 ≠ bn := by omega
  have hcap3_0 : ∀ o0 o1 o2 : Obj, (((w.alloc o0).alloc o1).alloc o2).cell? ⟨bn, 0, none⟩ = some (.int .i64 n) := fun o0 o1 o2 => (World.cell?_alloc_lt _ _ _ (by simp; omega)).trans ((World.cell?_alloc_lt _ _ _ (by simp; omega)).trans ((World.cell?_alloc_lt _ _ _ (by simp; omega)).trans (hc)))
  have hbn3 : bn < w.heap.size + 1 + 1 + 1 := by omega
  go_enter Tryd.func79, Tryd.ntmps79
  go_wp2_with fail
  refine (shift_any x y n hx0 hx1 hy0 hy1 hn0 hn1 _).mono ?_
  rintro _ r1 ⟨rfl, hbr1⟩
  obtain ⟨hcr1, hfr1⟩ := bcell hbr1
  have hzr1 := hbr1.size
  try simp only [World.size_alloc, World.size_setCell, World.size_drew] at hzr1
  have hlr1w0 : w.heap.size < r1.heap.size := by omega
  have hlr1w1 : w.heap.size + 1 < r1.heap.size := by omega
  have hlr1w2 : w.heap.size + 1 + 1 < r1.heap.size := by omega
  go_wp2
  refine bodyPost_ret (v := .tuple #[(.agg #[.int .u16 (hi (shv (val x y) n)), .int .u16 (lo (shv (val x y) n))]), .bool (sho (val x y) n)]) (by simp [results, Tryd.results79, go_sem, *]) rfl ⟨rfl, ?_⟩; exact (by repeat' (first | (with_reducible exact Below.refl _ _) | (with_reducible refine bl_set ?_ _ ?_) | (with_reducible refine bl_alloc ?_ _) | (with_reducible refine bl_drew ?_) | (with_reducible refine bl_via (by with_reducible assumption) ?_) | (with_reducible assumption) | omega | (simp only []; omega) | (simp; omega)))

set_option maxRecDepth 100000 in
set_option maxHeartbeats 2000000 in
theorem each_shift (a b c d e f n : Int) (ha0 : 0 ≤ a) (ha1 : a < 65536) (hb0 : 0 ≤ b) (hb1 : b < 65536) (hc0 : 0 ≤ c) (hc1 : c < 65536) (hd0 : 0 ≤ d) (hd1 : d < 65536) (he0 : 0 ≤ e) (he1 : e < 65536) (hf0 : 0 ≤ f) (hf1 : f < 65536) (bn : Nat) (hn0 : -9223372036854775808 ≤ n) (hn1 : n ≤ 9223372036854775807) (w : World) (hcn : w.cell? ⟨bn, 0, none⟩ = some (.int .i64 n)) (hbn : bn < w.heap.size) :
    Calls Tryd.prog 78 #[(.agg #[.int .u16 (a), .int .u16 (b), .int .u16 (c), .int .u16 (d), .int .u16 (e), .int .u16 (f)]), (.agg #[.int .u16 (a), .int .u16 (b), .int .u16 (c), .int .u16 (d), .int .u16 (e), .int .u16 (f)]), .func (.func 79) #[] #[.pointer (some ⟨bn, 0, none⟩)]] w fun r w' => r = .returned (.tuple #[(.agg #[.int .u16 (hi (shv (val a b) n)), .int .u16 (lo (shv (val a b) n)), .int .u16 (hi (shv (val c d) n)), .int .u16 (lo (shv (val c d) n)), .int .u16 (hi (shv (val e f) n)), .int .u16 (lo (shv (val e f) n))]), .bool ((sho (val a b) n) || (sho (val c d) n) || (sho (val e f) n))]) ∧ Below w.heap.size w w' := by
  have g0 : bn ≠ w.heap.size := by omega
  have g0' : w.heap.size ≠ bn := by omega
  have g1 : bn ≠ w.heap.size + 1 := by omega
  have g1' : w.heap.size + 1 ≠ bn := by omega
  have g2 : bn ≠ w.heap.size + 1 + 1 := by omega
  have g2' : w.heap.size + 1 + 1 ≠ bn := by omega
  have g3 : bn ≠ w.heap.size + 1 + 1 + 1 := by omega
  have g3' : w.heap.size + 1 + 1 + 1 ≠ bn := by omega
  have hcap4_0 : ∀ o0 o1 o2 o3 : Obj, ((((w.alloc o0).alloc o1).alloc o2).alloc o3).cell? ⟨bn, 0, none⟩ = some (.int .i64 n) := fun o0 o1 o2 o3 => (World.cell?_alloc_lt _ _ _ (by simp; omega)).trans ((World.cell?_alloc_lt _ _ _ (by simp; omega)).trans ((World.cell?_alloc_lt _ _ _ (by simp; omega)).trans ((World.cell?_alloc_lt _ _ _ (by simp; omega)).trans (hcn))))
  have hbn4 : bn < w.heap.size + 1 + 1 + 1 + 1 := by omega
  cases q0 : (sho (val a b) n) <;> cases q1 : (sho (val c d) n)
  all_goals
    go_enter Tryd.func78, Tryd.ntmps78
    go_wp2_with fail
    refine wp_loop_rounds 4 ?_
    rw [rounds_succ]
    go_wp2_with fail
    have hecr1 := @Ext.cell2
    refine wp_region_floatl 11 10 _ _ _ _ _ (.cells #[.int .u16 0, .int .u16 0] 25) (by kernel_rfl) rfl rfl (by kernel_rfl) (by kernel_rfl) rfl rfl rfl rfl (fun _ _ => by simp [go_sem]) (fun _ _ d _ _ h => by cases d <;> exact h) (by kernel_rfl) (by kernel_rfl) rfl ?_
    apply Exists.intro
    refine ⟨fun W' => ?_, ?_⟩
    · simp only [List.take_succ_cons, List.take_zero]
      repeat (first | go_big_quiet_skip | (go_big_quiet_want; go_big_quiet_op; first | go_big_quiet_on | (go_big_quiet_call ((first | fail | (go_at_call 79; exact ext_call (shiftc_any _ _ _ _ n bn (by assumption) (by assumption) (by assumption) (by assumption) hn0 hn1 _ (by rw [Ext.cell2 W' _ _ _ (by simp [*])]; exact hcap4_0 _ _ _ _) (by first | (refine Nat.lt_of_lt_of_le ?_ (Ext.h _).size; refine Nat.lt_of_lt_of_le ?_ W'.h.size; simp [*])))))))))
      exact wpQuiet_nil rfl
    clear hecr1
    simp only [List.drop_succ_cons, List.drop_zero, Act.put, List.setIfInBounds_toArray, List.set_cons_zero, List.set_cons_succ]
    intro B1 r1 hbr1 hBr1 hDr1 hEr1
    have hGr1_0 := block_cell hEr1 0
    have hGr1_1 := block_cell hEr1 1
    have hFr1 := block_free hEr1
    simp only [List.getElem?_toArray, List.getElem?_cons_zero, List.getElem?_cons_succ] at hGr1_0 hGr1_1
    clear hEr1
    try simp only [World.size_alloc, World.size_setCell, World.size_drew] at hBr1
    have hqr1bn : bn ≠ B1 := by omega
    have hpr1bn : B1 ≠ bn := Ne.symm hqr1bn
    obtain ⟨hcr1, hfr1⟩ := bcell hbr1
    have hzr1 := hbr1.size
    try simp only [World.size_alloc, World.size_setCell, World.size_drew] at hzr1
    have hlr1w0 : w.heap.size < r1.heap.size := by omega
    have hlr1w1 : w.heap.size + 1 < r1.heap.size := by omega
    have hlr1w2 : w.heap.size + 1 + 1 < r1.heap.size := by omega
    have hlr1w3 : w.heap.size + 1 + 1 + 1 < r1.heap.size := by omega
    have hlr1bn : bn < r1.heap.size := by omega
    have hk1_0 : r1.cell? ⟨bn, 0, none⟩ = some (.int .i64 n) := (hcr1 _ _ (by (try simp only [World.size_alloc, World.size_setCell]); omega)).trans (hcap4_0 _ _ _ _)
    go_wp2_with fail
    rw [rounds_succ]
    go_wp2_with fail
    have hecr2 := @Ext.cell2
    refine wp_region_floatl 11 10 _ _ _ _ _ (.cells #[.int .u16 0, .int .u16 0] 25) (by kernel_rfl) rfl rfl (by kernel_rfl) (by kernel_rfl) rfl rfl rfl rfl (fun _ _ => by simp [go_sem]) (fun _ _ d _ _ h => by cases d <;> exact h) (by kernel_rfl) (by kernel_rfl) rfl ?_
    apply Exists.intro
    refine ⟨fun W' => ?_, ?_⟩
    · simp only [List.take_succ_cons, List.take_zero]
      repeat (first | go_big_quiet_skip | (go_big_quiet_want; go_big_quiet_op; first | go_big_quiet_on | (go_big_quiet_call ((first | fail | (go_at_call 79; exact ext_call (shiftc_any _ _ _ _ n bn (by assumption) (by assumption) (by assumption) (by assumption) hn0 hn1 _ (by rw [Ext.cell2 W' _ _ _ (by simp [*])]; exact (cfar_h _ _ _ _ (by dsimp only; omega)).trans ((cfar_h _ _ _ _ (by dsimp only; omega)).trans ((cfar_h _ _ _ _ (by dsimp only; omega)).trans ((cfar_h _ _ _ _ (by dsimp only; omega)).trans (hk1_0))))) (by first | (refine Nat.lt_of_lt_of_le ?_ (Ext.h _).size; refine Nat.lt_of_lt_of_le ?_ W'.h.size; simp [*])))))))))
      exact wpQuiet_nil rfl
    clear hecr2
    simp only [List.drop_succ_cons, List.drop_zero, Act.put, List.setIfInBounds_toArray, List.set_cons_zero, List.set_cons_succ]
    intro B2 r2 hbr2 hBr2 hDr2 hEr2
    have hGr2_0 := block_cell hEr2 0
    have hGr2_1 := block_cell hEr2 1
    have hFr2 := block_free hEr2
    simp only [List.getElem?_toArray, List.getElem?_cons_zero, List.getElem?_cons_succ] at hGr2_0 hGr2_1
    clear hEr2
    try simp only [World.size_alloc, World.size_setCell, World.size_drew] at hBr2
    have hqr2bn : bn ≠ B2 := by omega
    have hpr2bn : B2 ≠ bn := Ne.symm hqr2bn
    obtain ⟨hcr2, hfr2⟩ := bcell hbr2
    have hzr2 := hbr2.size
    try simp only [World.size_alloc, World.size_setCell, World.size_drew] at hzr2
    have hlr2w0 : w.heap.size < r2.heap.size := by omega
    have hlr2w1 : w.heap.size + 1 < r2.heap.size := by omega
    have hlr2w2 : w.heap.size + 1 + 1 < r2.heap.size := by omega
    have hlr2w3 : w.heap.size + 1 + 1 + 1 < r2.heap.size := by omega
    have hlr2bn : bn < r2.heap.size := by omega
    have hlr2B1 : B1 < r2.heap.size := by omega
    have hk2_0 : r2.cell? ⟨bn, 0, none⟩ = some (.int .i64 n) := (hcr2 _ _ (by (try simp only [World.size_alloc, World.size_setCell]); omega)).trans ((cfar_h _ _ _ _ (by dsimp only; omega)).trans ((cfar_h _ _ _ _ (by dsimp only; omega)).trans ((cfar_h _ _ _ _ (by dsimp only; omega)).trans ((cfar_h _ _ _ _ (by dsimp only; omega)).trans (hk1_0)))))
    go_wp2_with fail
    rw [rounds_succ]
    go_wp2_with fail
    have hecr3 := @Ext.cell2
    refine wp_region_floatl 11 10 _ _ _ _ _ (.cells #[.int .u16 0, .int .u16 0] 25) (by kernel_rfl) rfl rfl (by kernel_rfl) (by kernel_rfl) rfl rfl rfl rfl (fun _ _ => by simp [go_sem]) (fun _ _ d _ _ h => by cases d <;> exact h) (by kernel_rfl) (by kernel_rfl) rfl ?_
    apply Exists.intro
    refine ⟨fun W' => ?_, ?_⟩
    · simp only [List.take_succ_cons, List.take_zero]
      repeat (first | go_big_quiet_skip | (go_big_quiet_want; go_big_quiet_op; first | go_big_quiet_on | (go_big_quiet_call ((first | fail | (go_at_call 79; exact ext_call (shiftc_any _ _ _ _ n bn (by assumption) (by assumption) (by assumption) (by assumption) hn0 hn1 _ (by rw [Ext.cell2 W' _ _ _ (by simp [*])]; exact (cfar_h _ _ _ _ (by dsimp only; omega)).trans ((cfar_h _ _ _ _ (by dsimp only; omega)).trans ((cfar_h _ _ _ _ (by dsimp only; omega)).trans ((cfar_h _ _ _ _ (by dsimp only; omega)).trans (hk2_0))))) (by first | (refine Nat.lt_of_lt_of_le ?_ (Ext.h _).size; refine Nat.lt_of_lt_of_le ?_ W'.h.size; simp [*])))))))))
      exact wpQuiet_nil rfl
    clear hecr3
    simp only [List.drop_succ_cons, List.drop_zero, Act.put, List.setIfInBounds_toArray, List.set_cons_zero, List.set_cons_succ]
    intro B3 r3 hbr3 hBr3 hDr3 hEr3
    have hGr3_0 := block_cell hEr3 0
    have hGr3_1 := block_cell hEr3 1
    have hFr3 := block_free hEr3
    simp only [List.getElem?_toArray, List.getElem?_cons_zero, List.getElem?_cons_succ] at hGr3_0 hGr3_1
    clear hEr3
    try simp only [World.size_alloc, World.size_setCell, World.size_drew] at hBr3
    have hqr3bn : bn ≠ B3 := by omega
    have hpr3bn : B3 ≠ bn := Ne.symm hqr3bn
    obtain ⟨hcr3, hfr3⟩ := bcell hbr3
    have hzr3 := hbr3.size
    try simp only [World.size_alloc, World.size_setCell, World.size_drew] at hzr3
    have hlr3w0 : w.heap.size < r3.heap.size := by omega
    have hlr3w1 : w.heap.size + 1 < r3.heap.size := by omega
    have hlr3w2 : w.heap.size + 1 + 1 < r3.heap.size := by omega
    have hlr3w3 : w.heap.size + 1 + 1 + 1 < r3.heap.size := by omega
    have hlr3bn : bn < r3.heap.size := by omega
    have hlr3B1 : B1 < r3.heap.size := by omega
    have hlr3B2 : B2 < r3.heap.size := by omega
    have hk3_0 : r3.cell? ⟨bn, 0, none⟩ = some (.int .i64 n) := (hcr3 _ _ (by (try simp only [World.size_alloc, World.size_setCell]); omega)).trans ((cfar_h _ _ _ _ (by dsimp only; omega)).trans ((cfar_h _ _ _ _ (by dsimp only; omega)).trans ((cfar_h _ _ _ _ (by dsimp only; omega)).trans ((cfar_h _ _ _ _ (by dsimp only; omega)).trans (hk2_0)))))
    go_wp2_with fail
    rw [rounds_succ]
    go_wp2
    refine bodyPost_ret (v := (.tuple #[(.agg #[.int .u16 (hi (shv (val a b) n)), .int .u16 (lo (shv (val a b) n)), .int .u16 (hi (shv (val c d) n)), .int .u16 (lo (shv (val c d) n)), .int .u16 (hi (shv (val e f) n)), .int .u16 (lo (shv (val e f) n))]), .bool ((sho (val a b) n) || (sho (val c d) n) || (sho (val e f) n))])) (by simp [results, Tryd.results78, go_sem, *]) rfl ⟨by rw [q0, q1], ?_⟩; exact (by repeat' (first | (with_reducible exact Below.refl _ _) | (with_reducible refine bl_set ?_ _ ?_) | (with_reducible refine bl_alloc ?_ _) | (with_reducible refine bl_drew ?_) | (with_reducible refine bl_via (by with_reducible assumption) ?_) | (with_reducible assumption) | omega | (simp only []; omega) | (simp; omega)))

set_option maxHeartbeats 1000000 in
theorem vshift_any (a b c d e f n : Int) (ha0 : 0 ≤ a) (ha1 : a < 65536) (hb0 : 0 ≤ b) (hb1 : b < 65536) (hc0 : 0 ≤ c) (hc1 : c < 65536) (hd0 : 0 ≤ d) (hd1 : d < 65536) (he0 : 0 ≤ e) (he1 : e < 65536) (hf0 : 0 ≤ f) (hf1 : f < 65536) (hn0 : -9223372036854775808 ≤ n) (hn1 : n ≤ 9223372036854775807) (w : World) :
    Calls Tryd.prog 54 #[(.agg #[.int .u16 (a), .int .u16 (b), .int .u16 (c), .int .u16 (d), .int .u16 (e), .int .u16 (f)]), .int .i64 n] w fun r w' => r = .returned (.tuple #[(.agg #[.int .u16 (hi (shv (val a b) n)), .int .u16 (lo (shv (val a b) n)), .int .u16 (hi (shv (val c d) n)), .int .u16 (lo (shv (val c d) n)), .int .u16 (hi (shv (val e f) n)), .int .u16 (lo (shv (val e f) n))]), .bool ((sho (val a b) n) || (sho (val c d) n) || (sho (val e f) n))]) ∧ Below w.heap.size w w' := by
  have hmf : ∀ (fn : Fn) (first cap : Array Value) (w : World), (Instr.makeFunc fn first cap).run Tryd.prog w = .ok (.func fn first cap) w := fun _ _ _ _ => rfl
  go_enter Tryd.func54, Tryd.ntmps54
  go_wp2_with fail
  refine (each_shift a b c d e f n ha0 ha1 hb0 hb1 hc0 hc1 hd0 hd1 he0 he1 hf0 hf1 (w.heap.size + 1) hn0 hn1 _ (by go_simp) (by simp)).mono ?_
  rintro _ r1 ⟨rfl, hbr1⟩
  obtain ⟨hcr1, hfr1⟩ := bcell hbr1
  have hzr1 := hbr1.size
  try simp only [World.size_alloc, World.size_setCell, World.size_drew] at hzr1
  have hlr1w0 : w.heap.size < r1.heap.size := by omega
  have hlr1w1 : w.heap.size + 1 < r1.heap.size := by omega
  have hlr1w2 : w.heap.size + 1 + 1 < r1.heap.size := by omega
  go_wp2
  refine bodyPost_ret (v := (.tuple #[(.agg #[.int .u16 (hi (shv (val a b) n)), .int .u16 (lo (shv (val a b) n)), .int .u16 (hi (shv (val c d) n)), .int .u16 (lo (shv (val c d) n)), .int .u16 (hi (shv (val e f) n)), .int .u16 (lo (shv (val e f) n))]), .bool ((sho (val a b) n) || (sho (val c d) n) || (sho (val e f) n))])) (by simp [results, Tryd.results54, go_sem, *]) rfl ⟨rfl, ?_⟩; exact (by repeat' (first | (with_reducible exact Below.refl _ _) | (with_reducible refine bl_set ?_ _ ?_) | (with_reducible refine bl_alloc ?_ _) | (with_reducible refine bl_drew ?_) | (with_reducible refine bl_via (by with_reducible assumption) ?_) | (with_reducible assumption) | omega | (simp only []; omega) | (simp; omega)))

end Go.Proofs.YtbbhppjamighdaaDoor
