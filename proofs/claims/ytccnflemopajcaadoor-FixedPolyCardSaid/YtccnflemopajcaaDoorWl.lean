/- The examples that every law of chapter 16 checks first: 'lives' returns true, where the table of coefficients is as laid. -/
import Derived.Test.YtccnflemopajcaaDoorFs
import Derived.Test.YtccnflemopajcaaDoorFd
import Derived.Test.YtccnflemopajcaaDoorFm
import Derived.Test.YtccnflemopajcaaDoorFr
import Derived.Test.YtccnflemopajcaaDoorFp
import Derived.Test.YtccnflemopajcaaDoorEq
import Derived.Test.YtccnflemopajcaaDoorKg
namespace Go.Proofs.YtccnflemopajcaaDoor
set_option linter.unusedSimpArgs false
set_option linter.unusedVariables false
open Go.RowKit

theorem half16 (w : World) : Calls Tryd.prog 31 #[] w fun e w' => e = .returned (.agg #[.int .u16 (8192), .int .u16 (0)]) ∧ Below w.heap.size w w' := by
  go_enter Tryd.func31, Tryd.ntmps31
  go_wp2
  refine bodyPost_ret (v := (.agg #[.int .u16 (8192), .int .u16 (0)])) (by simp [results, Tryd.results31, go_sem, *]) rfl ⟨rfl, ?_⟩; exact (by repeat' (first | (with_reducible exact Below.refl _ _) | (with_reducible refine bl_set ?_ _ ?_) | (with_reducible refine bl_alloc ?_ _) | (with_reducible refine bl_drew ?_) | (with_reducible refine bl_via (by with_reducible assumption) ?_) | (with_reducible assumption) | omega | (simp only []; omega) | (simp; omega)))
theorem quarter16 (w : World) : Calls Tryd.prog 32 #[] w fun e w' => e = .returned (.agg #[.int .u16 (4096), .int .u16 (0)]) ∧ Below w.heap.size w w' := by
  go_enter Tryd.func32, Tryd.ntmps32
  go_wp2
  refine bodyPost_ret (v := (.agg #[.int .u16 (4096), .int .u16 (0)])) (by simp [results, Tryd.results32, go_sem, *]) rfl ⟨rfl, ?_⟩; exact (by repeat' (first | (with_reducible exact Below.refl _ _) | (with_reducible refine bl_set ?_ _ ?_) | (with_reducible refine bl_alloc ?_ _) | (with_reducible refine bl_drew ?_) | (with_reducible refine bl_via (by with_reducible assumption) ?_) | (with_reducible assumption) | omega | (simp only []; omega) | (simp; omega)))
theorem div16 (w : World) : Calls Tryd.prog 23 #[(.agg #[.int .u16 (4096), .int .u16 (0)]), (.agg #[.int .u16 (8192), .int .u16 (0)])] w fun e w' => e = .returned (.tuple #[(.agg #[.int .u16 (8192), .int .u16 (0)]), .bool false]) ∧ Below w.heap.size w w' := by
  have h := div_any 4096 0 8192 0 (by omega) (by omega) (by omega) (by omega) (by omega) (by omega) (by omega) (by omega) w
  rw [show hi (dvv (val 4096 0) (val 8192 0)) = 8192 by decide +kernel, show lo (dvv (val 4096 0) (val 8192 0)) = 0 by decide +kernel, show dvo (val 4096 0) (val 8192 0) = false by decide +kernel] at h
  exact h
theorem sqrt16 (w : World) : Calls Tryd.prog 25 #[(.agg #[.int .u16 (4096), .int .u16 (0)])] w fun e w' => e = .returned (.tuple #[(.agg #[.int .u16 (8192), .int .u16 (0)]), .bool false]) ∧ Below w.heap.size w w' := by
  have h := sqrt_pos 4096 0 (by omega) (by omega) (by omega) (by omega) (by decide +kernel) w
  have e : isq (val 4096 0 * 268435456) = 134217728 := isq_unique _ _ (by omega) (by decide +kernel) (by decide +kernel)
  have n : nsq (val 4096 0 * 268435456) = 134217728 := by unfold nsq; rw [e, if_neg (by decide +kernel)]
  rw [n, show hi 134217728 = 8192 by decide +kernel, show lo 134217728 = 0 by decide +kernel] at h
  exact h
/-- The words of the example's coefficients. -/
def cof16 : Nat → Int
  | 0 => 4096
  | 2 => 8192
  | _ => 0
theorem cof16_w : ∀ o, W16 (cof16 o) := fun o => by unfold cof16; split <;> exact W16.mk (by omega) (by omega)
theorem poly16 (B : Nat) (w : World) (hB : B < w.heap.size) (h0 : w.cell? ⟨B, 0, none⟩ = some (.int .u16 4096)) (h1 : w.cell? ⟨B, 1, none⟩ = some (.int .u16 0)) (h2 : w.cell? ⟨B, 2, none⟩ = some (.int .u16 8192)) (h3 : w.cell? ⟨B, 3, none⟩ = some (.int .u16 0)) :
    Calls Tryd.prog 26 #[(.agg #[.int .u16 (8192), .int .u16 (0)]), .slice (some ⟨B, 0, none⟩) 2 2] w fun e w' => e = .returned (.tuple #[(.agg #[.int .u16 (8192), .int .u16 (0)]), .bool false]) ∧ Below w.heap.size w w' := by
  have h := poly_fn 8192 0 (by omega) (by omega) (by omega) (by omega) cof16 cof16_w 2 2 B 0 (by omega) w hB (fun o ho => by
    rcases (show o = 0 ∨ o = 1 ∨ o = 2 ∨ o = 3 by omega) with rfl | rfl | rfl | rfl
    · exact h0
    · exact h1
    · exact h2
    · exact h3)
  have e1 : (pst (val 8192 0) (fun i => val (cof16 (2 * i)) (cof16 (2 * i + 1))) 2 2).1 = 134217728 := by decide +kernel
  have e2 : (pst (val 8192 0) (fun i => val (cof16 (2 * i)) (cof16 (2 * i + 1))) 2 2).2 = false := by decide +kernel
  rw [e1, e2, show hi 134217728 = 8192 by decide +kernel, show lo 134217728 = 0 by decide +kernel] at h
  exact h
theorem mul16 (w : World) : Calls Tryd.prog 14 #[(.agg #[.int .u16 (8192), .int .u16 (0)]), (.agg #[.int .u16 (8192), .int .u16 (0)])] w fun e w' => e = .returned (.agg #[.int .u16 (4096), .int .u16 (0)]) ∧ Below w.heap.size w w' := by
  have h := mul_any 8192 0 8192 0 (by omega) (by omega) (by omega) (by omega) (by omega) (by omega) (by omega) (by omega) w
  rw [show hi (mulv (val 8192 0) (val 8192 0)) = 4096 by decide +kernel, show lo (mulv (val 8192 0) (val 8192 0)) = 0 by decide +kernel] at h
  exact h
theorem multri16 (w : World) : Calls Tryd.prog 16 #[(.agg #[.int .u16 (0), .int .u16 (1)]), (.agg #[.int .u16 (8192), .int .u16 (0)])] w fun e w' => e = .returned (.agg #[.int .u16 (0), .int .u16 (0), .int .u16 (8192)]) ∧ Below w.heap.size w w' := by
  have h := multri_any 0 1 8192 0 (by omega) (by omega) (by omega) (by omega) (by omega) (by omega) (by omega) (by omega) w
  rw [show th (mtv (val 0 1) (val 8192 0)) = 0 by decide +kernel, show tm (mtv (val 0 1) (val 8192 0)) = 0 by decide +kernel, show lo (mtv (val 0 1) (val 8192 0)) = 8192 by decide +kernel] at h
  exact h
theorem sin16 (w : World) (hS : Sines w) : Calls Tryd.prog 28 #[(.agg #[.int .u16 (4096), .int .u16 (0)])] w fun e w' => e = .returned (.agg #[.int .u16 (8192), .int .u16 (0)]) ∧ Below w.heap.size w w' := by
  have h := Sin_any 4096 0 (by omega) (by omega) (by omega) (by omega) w hS
  rw [show hi (sinv (val 4096 0)) = 8192 by decide +kernel, show lo (sinv (val 4096 0)) = 0 by decide +kernel] at h
  exact h
theorem cos16 (w : World) (hS : Sines w) : Calls Tryd.prog 30 #[(.agg #[.int .u16 (0), .int .u16 (0)])] w fun e w' => e = .returned (.agg #[.int .u16 (8192), .int .u16 (0)]) ∧ Below w.heap.size w w' := by
  have h := Cos_any 0 0 (by omega) (by omega) (by omega) (by omega) w hS
  rw [show hi (sinv (val 0 0 + 67108864)) = 8192 by decide +kernel, show lo (sinv (val 0 0 + 67108864)) = 0 by decide +kernel] at h
  exact h

set_option maxRecDepth 100000 in
set_option maxHeartbeats 4000000 in
theorem lives16 (w : World) (hS : Sines w) :
    Calls Tryd.prog 13 #[] w fun e w' => e = .returned (.bool true) ∧ Below w.heap.size w w' := by
  have heq := @eq_dbl
  have het := @eq_tri
  go_enter Tryd.func13, Tryd.ntmps13
  go_wp2_with fail
  refine (quarter16 _).mono ?_
  rintro _ r0 ⟨rfl, hb0⟩
  have hs0 := hb0.size
  try simp only [World.size_alloc] at hs0
  have hw0 : Below w.heap.size w r0 := (by repeat' (first | (with_reducible exact Below.refl _ _) | (with_reducible refine bl_set ?_ _ ?_) | (with_reducible refine bl_alloc ?_ _) | (with_reducible refine bl_drew ?_) | (with_reducible refine bl_via (by with_reducible assumption) ?_) | (with_reducible assumption) | omega | (simp only []; omega) | (simp; omega)))
  clear hb0
  go_wp2_with (first | fail)
  refine (half16 _).mono ?_
  rintro _ r1 ⟨rfl, hb1⟩
  have hs1 := hb1.size
  have hw1 := bl_via hb1 hw0
  clear hb1 hw0 
  go_wp2_with (first | fail)
  refine (div16 _).mono ?_
  rintro _ r2 ⟨rfl, hb2⟩
  have hs2 := hb2.size
  have hw2 := bl_via hb2 hw1
  clear hb2 hw1 
  go_wp2_with (first | fail | (refine WL.h ?_; first | (refine wl_store (op := { dst := none, op := .store 25 (.tmp 1) (.tmp 11), type := _, pos := _, after := _, guard := none }) rfl 25 (.tmp 1) (.tmp 11) rfl r2.heap.size 0 _ rfl rfl (there_new (c := #[.int .u16 0, .int .u16 0]) (t := 25) (by simp)) hi_dbl (by simp [Value.oneCell']) ?_; refine wpList_gen (fun W => Below w.heap.size w W ∧ W.heap.size = r2.heap.size + 1 ∧ W.rangeAt r2.heap.size 0 [.int .u16 8192, .int .u16 0]) ⟨bl_cells _ _ _ _ (bl_alloc hw2 _) (by omega), size_store, range_here (by simp)⟩ ?_; rintro s2 ⟨hws2, hss2, fs2_1⟩; simp only [Act.put, List.setIfInBounds_toArray, List.set_cons_zero, List.set_cons_succ])))
  refine (quarter16 _).mono ?_
  rintro _ r3 ⟨rfl, hb3⟩
  have hs3 := hb3.size
  have hw3 := bl_via hb3 hws2
  have f3_1 := range_on fs2_1 hb3 (by omega)
  clear hb3 hws2 fs2_1
  go_wp2_with (first | fail)
  refine (sqrt16 _).mono ?_
  rintro _ r4 ⟨rfl, hb4⟩
  have hs4 := hb4.size
  have hw4 := bl_via hb4 hw3
  have f4_1 := range_on f3_1 hb4 (by omega)
  clear hb4 hw3 f3_1
  go_wp2_with (first | fail | (refine WL.h ?_; first | (refine wl_store (op := { dst := none, op := .store 25 (.tmp 3) (.tmp 16), type := _, pos := _, after := _, guard := none }) rfl 25 (.tmp 3) (.tmp 16) rfl r4.heap.size 0 _ rfl rfl (there_new (c := #[.int .u16 0, .int .u16 0]) (t := 25) (by simp)) hi_dbl (by simp [Value.oneCell']) ?_; refine wpList_gen (fun W => Below w.heap.size w W ∧ W.heap.size = r4.heap.size + 1 ∧ W.rangeAt (r2.heap.size) 0 [.int .u16 8192, .int .u16 0] ∧ W.rangeAt r4.heap.size 0 [.int .u16 8192, .int .u16 0]) ⟨bl_cells _ _ _ _ (bl_alloc hw4 _) (by omega), size_store, range_store f4_1 (by omega), range_here (by simp)⟩ ?_; clear f4_1; rintro s4 ⟨hws4, hss4, fs4_1, fs4_3⟩; simp only [Act.put, List.setIfInBounds_toArray, List.set_cons_zero, List.set_cons_succ])))
  refine (half16 _).mono ?_
  rintro _ r5 ⟨rfl, hb5⟩
  have hs5 := hb5.size
  have hw5 := bl_via hb5 hws4
  have f5_1 := range_on fs4_1 hb5 (by omega)
  have f5_3 := range_on fs4_3 hb5 (by omega)
  clear hb5 hws4 fs4_1 fs4_3
  go_wp2_with (first | fail)
  refine (quarter16 _).mono ?_
  rintro _ r6 ⟨rfl, hb6⟩
  have hs6 := hb6.size
  have hw6 := bl_via hb6 hw5
  have f6_1 := range_on f5_1 hb6 (by omega)
  have f6_3 := range_on f5_3 hb6 (by omega)
  clear hb6 hw5 f5_1 f5_3
  go_wp2_with (first | fail)
  refine (half16 _).mono ?_
  rintro _ r7 ⟨rfl, hb7⟩
  have hs7 := hb7.size
  have hw7 := bl_via hb7 hw6
  have f7_1 := range_on f6_1 hb7 (by omega)
  have f7_3 := range_on f6_3 hb7 (by omega)
  clear hb7 hw6 f6_1 f6_3
  go_wp2_with (first | fail)
  refine (poly16 _ _ (by simp) (by go_simp) (by go_simp) (by go_simp) (by go_simp)).mono ?_
  rintro _ r8 ⟨rfl, hb8⟩
  have hs8 := hb8.size
  simp only [World.size_alloc] at hs8
  have hw8 := bl_via hb8 (bl_alloc hw7 _)
  have f8_1 := range_on (w := _) (range_alloc f7_1 (by omega)) hb8 (by (try simp only [World.size_alloc]); omega)
  have f8_3 := range_on (w := _) (range_alloc f7_3 (by omega)) hb8 (by (try simp only [World.size_alloc]); omega)
  clear hb8 hw7 f7_1 f7_3
  go_wp2_with (first | fail | (refine WL.h ?_; (refine wl_store (op := { dst := none, op := .store 25 (.tmp 5) (.tmp 24), type := _, pos := _, after := _, guard := none }) rfl 25 (.tmp 5) (.tmp 24) rfl r8.heap.size 0 _ rfl rfl (there_new (c := #[.int .u16 0, .int .u16 0]) (t := 25) (by simp)) hi_dbl (by simp [Value.oneCell']) ?_; refine wpList_gen (fun W => Below w.heap.size w W ∧ W.heap.size = r8.heap.size + 1 ∧ W.rangeAt (r2.heap.size) 0 [.int .u16 8192, .int .u16 0] ∧ W.rangeAt (r4.heap.size) 0 [.int .u16 8192, .int .u16 0] ∧ W.rangeAt r8.heap.size 0 [.int .u16 8192, .int .u16 0]) ⟨bl_cells _ _ _ _ (bl_alloc hw8 _) (by omega), size_store, range_store f8_1 (by omega), range_store f8_3 (by omega), range_here (by simp)⟩ ?_; clear f8_1 f8_3; rintro s8 ⟨hws8, hss8, fs8_1, fs8_3, fs8_5⟩; simp only [Act.put, List.setIfInBounds_toArray, List.set_cons_zero, List.set_cons_succ])))
  have hecr9 := @Ext.cell
  refine wp_region_ext (by kernel_rfl) (by kernel_rfl) ?_
  repeat (first | go_big_quiet_skip | (go_big_quiet_want; first | (refine QW.h ?_; first | (refine qw_load (op := { dst := some 39, op := .load 25 (.tmp 1), type := _, pos := _, after := _, guard := _ }) 25 (.tmp 1) rfl (r2.heap.size) 0 rfl [.int .u16 8192, .int .u16 0] _ (range_ext fs8_1 (by omega)) hu_dbl rfl hi_dbl ?_; simp only [Act.put, List.setIfInBounds_toArray, List.set_cons_zero, List.set_cons_succ]; go_big_quiet_on) | (refine qw_load (op := { dst := some 48, op := .load 25 (.tmp 3), type := _, pos := _, after := _, guard := _ }) 25 (.tmp 3) rfl (r4.heap.size) 0 rfl [.int .u16 8192, .int .u16 0] _ (range_ext fs8_3 (by omega)) hu_dbl rfl hi_dbl ?_; simp only [Act.put, List.setIfInBounds_toArray, List.set_cons_zero, List.set_cons_succ]; go_big_quiet_on) | (refine qw_load (op := { dst := some 57, op := .load 25 (.tmp 5), type := _, pos := _, after := _, guard := _ }) 25 (.tmp 5) rfl (r8.heap.size) 0 rfl [.int .u16 8192, .int .u16 0] _ (range_ext fs8_5 (by omega)) hu_dbl rfl hi_dbl ?_; simp only [Act.put, List.setIfInBounds_toArray, List.set_cons_zero, List.set_cons_succ]; go_big_quiet_on)) | (go_big_quiet_op; first | go_big_quiet_on | (go_big_quiet_call ((first | fail | (go_at_call 31; exact ext_call (half16 _)) | (go_at_call 32; exact ext_call (quarter16 _)) | (go_at_call 14; exact ext_call (mul16 _)) | (go_at_call 16; exact ext_call (multri16 _)) | (go_at_call 28; exact ext_call (sin16 _ ((hS.on hws8).on (Ext.h _)))) | (go_at_call 30; exact ext_call (cos16 _ ((hS.on hws8).on (Ext.h _))))))))))
  clear hecr9
  refine wpQuiet_nil ?_
  rintro r9 ⟨⟨_, hbr9⟩, rfl⟩
  obtain ⟨hcr9, hfr9⟩ := bcell hbr9
  have hzr9 := hbr9.size
  try simp only [World.size_alloc, World.size_setCell, World.size_drew] at hzr9
  have hs9 := hbr9.size
  have hw9 := bl_via hbr9 hws8
  have f9_1 := range_on fs8_1 hbr9 (by omega)
  have f9_3 := range_on fs8_3 hbr9 (by omega)
  have f9_5 := range_on fs8_5 hbr9 (by omega)
  clear hws8 fs8_1 fs8_3 fs8_5
  go_wp2
  go_ret
  exact ⟨rfl, (by repeat' (first | (with_reducible exact Below.refl _ _) | (with_reducible refine bl_set ?_ _ ?_) | (with_reducible refine bl_alloc ?_ _) | (with_reducible refine bl_drew ?_) | (with_reducible refine bl_via (by with_reducible assumption) ?_) | (with_reducible assumption) | omega | (simp only []; omega) | (simp; omega)))⟩
end Go.Proofs.YtccnflemopajcaaDoor
