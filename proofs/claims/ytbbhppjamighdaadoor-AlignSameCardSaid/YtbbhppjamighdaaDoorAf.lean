/- Contracts of Angles, of package align and of its reference, over this translation: what they return, given what their callees return. -/
import Derived.Test.YtbbhppjamighdaaDoorAa
import Derived.Test.YtbbhppjamighdaaDoorVj
namespace Go.Proofs.YtbbhppjamighdaaDoor
set_option linter.unusedSimpArgs false
set_option linter.unusedVariables false
open Go.RowKit

/-- What of six words is filled behind i rounds. -/
def fill6 (g : Nat → Int) (i o : Nat) : Int := if o < 2 * i then g o else 0
theorem fill6_next (g : Nat → Int) (i o : Nat) :
    (if o = i * 2 + 1 then g (2 * i + 1) else if o = i * 2 then g (2 * i) else fill6 g i o) = fill6 g (i + 1) o := by
  unfold fill6
  by_cases e1 : o = i * 2 + 1
  · subst e1
    rw [if_pos rfl, if_pos (by omega), Nat.mul_comm 2 i]
  · by_cases e2 : o = i * 2
    · subst e2
      rw [if_neg (by omega), if_pos rfl, if_pos (by omega), Nat.mul_comm 2 i]
    · rw [if_neg e1, if_neg e2]
      by_cases c : o < 2 * i
      · rw [if_pos c, if_pos (by omega)]
      · rw [if_neg c, if_neg (by omega)]
theorem range6c {w : World} {b : Nat} {g : Nat → Int} (h : Holds w b 6 g) : w.rangeAt b 0 [.int .u16 (g 0), .int .u16 (g 1), .int .u16 (g 2), .int .u16 (g 3), .int .u16 (g 4), .int .u16 (g 5)] := h.range6 0 (by omega)

set_option maxRecDepth 100000 in
set_option maxHeartbeats 8000000 in
theorem angles_fn (f g d : Nat → Int) (t0 t1 : Int) (ob : Nat → Bool)
    (D0 : (∀ w, Calls Tryd.prog 31 #[(.agg #[.int .u16 (f 14), .int .u16 (f 15)]), (.agg #[.int .u16 (f 10), .int .u16 (f 11)])] w fun e w' => e = .returned (.tuple #[(.agg #[.int .u16 (d 0), .int .u16 (d 1)]), .bool (ob 0)]) ∧ Below w.heap.size w w'))
    (D1 : (∀ w, Calls Tryd.prog 31 #[(.agg #[.int .u16 (f 4), .int .u16 (f 5)]), (.agg #[.int .u16 (f 12), .int .u16 (f 13)])] w fun e w' => e = .returned (.tuple #[(.agg #[.int .u16 (d 2), .int .u16 (d 3)]), .bool (ob 1)]) ∧ Below w.heap.size w w'))
    (D2 : (∀ w, Calls Tryd.prog 31 #[(.agg #[.int .u16 (f 6), .int .u16 (f 7)]), (.agg #[.int .u16 (f 2), .int .u16 (f 3)])] w fun e w' => e = .returned (.tuple #[(.agg #[.int .u16 (d 4), .int .u16 (d 5)]), .bool (ob 2)]) ∧ Below w.heap.size w w'))
    (T : (∀ w, Calls Tryd.prog 33 #[.int .i64 42722830] w fun e w' => e = .returned (.agg #[.int .u16 (t0), .int .u16 (t1)]) ∧ Below w.heap.size w w'))
    (M0 : (∀ w, Calls Tryd.prog 32 #[(.agg #[.int .u16 (d 0), .int .u16 (d 1)]), (.agg #[.int .u16 (t0), .int .u16 (t1)])] w fun e w' => e = .returned (.agg #[.int .u16 (g 0), .int .u16 (g 1)]) ∧ Below w.heap.size w w'))
    (M1 : (∀ w, Calls Tryd.prog 32 #[(.agg #[.int .u16 (d 2), .int .u16 (d 3)]), (.agg #[.int .u16 (t0), .int .u16 (t1)])] w fun e w' => e = .returned (.agg #[.int .u16 (g 2), .int .u16 (g 3)]) ∧ Below w.heap.size w w'))
    (M2 : (∀ w, Calls Tryd.prog 32 #[(.agg #[.int .u16 (d 4), .int .u16 (d 5)]), (.agg #[.int .u16 (t0), .int .u16 (t1)])] w fun e w' => e = .returned (.agg #[.int .u16 (g 4), .int .u16 (g 5)]) ∧ Below w.heap.size w w')) (w : World) :
    Calls Tryd.prog 12 #[(.agg #[.int .u16 (f 0), .int .u16 (f 1), .int .u16 (f 2), .int .u16 (f 3), .int .u16 (f 4), .int .u16 (f 5), .int .u16 (f 6), .int .u16 (f 7), .int .u16 (f 8), .int .u16 (f 9), .int .u16 (f 10), .int .u16 (f 11), .int .u16 (f 12), .int .u16 (f 13), .int .u16 (f 14), .int .u16 (f 15), .int .u16 (f 16), .int .u16 (f 17)])] w fun e w' => e = .returned (.tuple #[(.agg #[.int .u16 (g 0), .int .u16 (g 1), .int .u16 (g 2), .int .u16 (g 3), .int .u16 (g 4), .int .u16 (g 5)]), .bool (orb ob 3)]) ∧ Below w.heap.size w w' := by
  go_enter Tryd.func12, Tryd.ntmps12
  go_wp2_with fail
  refine wp_gen (fun W => Below w.heap.size w W ∧ w.heap.size + 1 + 1 + 1 ≤ W.heap.size ∧ Holds W w.heap.size 18 f ∧ W.there (w.heap.size + 1) 0 6 ∧ Holds W (w.heap.size + 1 + 1) 6 (fill6 g 0) ∧ Loose W (w.heap.size + 1 + 1)) ⟨(by repeat' (first | (with_reducible exact Below.refl _ _) | (with_reducible refine bl_set ?_ _ ?_) | (with_reducible refine bl_alloc ?_ _) | (with_reducible refine bl_drew ?_) | (with_reducible refine bl_via (by with_reducible assumption) ?_) | (with_reducible assumption) | omega | (simp only []; omega) | (simp; omega))), by simp, ?_, ?_, ?_, ?_⟩ ?_
  · apply all18 <;> go_simp
  · exact there6 (v0 := .int .u16 0) (v1 := .int .u16 0) (v2 := .int .u16 0) (v3 := .int .u16 0) (v4 := .int .u16 0) (v5 := .int .u16 0) (by go_simp) (by go_simp) (by go_simp) (by go_simp) (by go_simp) (by go_simp) (fun o => by go_simp)
  · apply all6 <;> (show _ = some (Value.int .u16 0); go_simp)
  · intro o; go_simp
  rintro W0 ⟨hb0, hs0, hm0, ht0, ha0, hl0⟩
  go_loopw [5, 11] (fun out v W => ∃ i : Nat, i ≤ 3 ∧ v = .int .i64 i ∧ out = .bool (orb ob i) ∧ Below w.heap.size w W ∧ w.heap.size + 1 + 1 + 1 ≤ W.heap.size ∧ Holds W w.heap.size 18 f ∧ W.there (w.heap.size + 1) 0 6 ∧ Holds W (w.heap.size + 1 + 1) 6 (fill6 g i) ∧ Loose W (w.heap.size + 1 + 1)) (fun _ v _ => (3 - intOf v).toNat)
  case atStart => exact ⟨0, by omega, rfl, rfl, hb0, hs0, hm0, ht0, ha0, hl0⟩
  case round =>
    clear hb0 hs0 hm0 ht0 ha0 hl0
    obtain ⟨i, hI, rfl, rfl, hb1, hs1, hm1, ht1, ha1, hl1⟩ := hrel
    by_cases hlt : i < 3
    · rcases (show i = 0 ∨ i = 1 ∨ i = 2 by omega) with rfl | rfl | rfl
      · have xa := hm1 14 (by omega)
        have xb := hm1 15 (by omega)
        have xc := hm1 10 (by omega)
        have xd := hm1 11 (by omega)
        have z1 : w.heap.size < wr.heap.size := by omega
        have z2 : w.heap.size + 1 + 1 < wr.heap.size := by omega
        have ecast : ((0 : Nat) : Int) = 0 := rfl
        simp only [ecast]
        clear ecast
        have hout : orb ob 0 = false := rfl
        simp only [hout]
        go_wp2_with fail
        have hecr2 := @Ext.cell2
        refine wp_region_floatl 14 13 _ _ _ _ _ (.cells #[.int .u16 0, .int .u16 0] 25) (by kernel_rfl) rfl rfl (by kernel_rfl) (by kernel_rfl) rfl rfl rfl rfl (fun _ _ => by simp [go_sem]) (fun _ _ d _ _ h => by cases d <;> exact h) (by kernel_rfl) (by kernel_rfl) rfl ?_
        apply Exists.intro
        refine ⟨fun W' => ?_, ?_⟩
        · simp only [List.take_succ_cons, List.take_zero]
          repeat (first | go_big_quiet_skip | (go_big_quiet_want; go_big_quiet_op; first | go_big_quiet_on | (go_big_quiet_call ((first | fail | (go_at_call 31; with_reducible exact ext_call (D0 _)))))))
          exact wpQuiet_nil rfl
        clear hecr2
        simp only [List.drop_succ_cons, List.drop_zero, Act.put, List.setIfInBounds_toArray, List.set_cons_zero, List.set_cons_succ]
        intro B2 r2 hbr2 hBr2 hDr2 hEr2
        have hGr2_0 := block_cell hEr2 0
        have hGr2_1 := block_cell hEr2 1
        have hFr2 := block_free hEr2
        simp only [List.getElem?_toArray, List.getElem?_cons_zero, List.getElem?_cons_succ] at hGr2_0 hGr2_1
        clear hEr2
        try simp only [World.size_alloc, World.size_setCell, World.size_drew] at hBr2
        obtain ⟨hcr2, hfr2⟩ := bcell hbr2
        have hzr2 := hbr2.size
        try simp only [World.size_alloc, World.size_setCell, World.size_drew] at hzr2
        have hm2 := hm1.on hbr2 (by omega)
        have ht2 := there_on ht1 hbr2 (by omega)
        have ha2 := ha1.on hbr2 (by omega)
        have hl2 := hl1.on hbr2 (by omega)
        have hb2 := bl_via hbr2 hb1
        clear hm1 ht1 ha1 hl1 hcr2 hfr2 hbr2 xa xb xc xd hb1
        go_wp2_with fail
        refine wp_gen (fun W => Below w.heap.size w W ∧ (w.heap.size + 1 + 1 + 1 ≤ W.heap.size ∧ B2 < W.heap.size) ∧ Holds W w.heap.size 18 f ∧ W.there (w.heap.size + 1) 0 6 ∧ Holds W (w.heap.size + 1 + 1) 6 (fill6 g 0) ∧ Loose W (w.heap.size + 1 + 1) ∧ W.cell? ⟨B2, 0, none⟩ = some (.int .u16 (d 0)) ∧ W.cell? ⟨B2, 1, none⟩ = some (.int .u16 (d 1))) ⟨(by repeat' (first | (with_reducible exact Below.refl _ _) | (with_reducible refine bl_set ?_ _ ?_) | (with_reducible refine bl_alloc ?_ _) | (with_reducible refine bl_drew ?_) | (with_reducible refine bl_via (by with_reducible assumption) ?_) | (with_reducible assumption) | omega | (simp only []; omega) | (simp; omega))), ⟨by simp only [World.size_setCell]; omega, by simp only [World.size_setCell]; omega⟩, (hm2.far _ _ (by omega)).far _ _ (by omega), there_cell (there_cell ht2 (by omega)) (by omega), (ha2.far _ _ (by omega)).far _ _ (by omega), (hl2.set _ _).set _ _, by go_simp, by go_simp⟩ ?_
        clear hm2 ht2 ha2 hl2 hb2 hGr2_0 hGr2_1 hFr2
        rintro W3 ⟨hb3, ⟨hs3, hs3'⟩, hm3, ht3, ha3, hl3, p0, p1⟩
        have ya := ha3 0 (by omega)
        have yb := ha3 1 (by omega)
        have yc := hl3 0
        have yd := hl3 1
        have z5 : w.heap.size + 1 + 1 < W3.heap.size := by omega
        first | go_region_with (first | (go_at_call 33; refine (T _).mono ?_; rintro _ r5 ⟨rfl, hbr5⟩; obtain ⟨hcr5, hfr5⟩ := bcell hbr5; have hz5 := hbr5.size; (try simp only [World.size_drew] at hz5 hcr5 hfr5); have k5 : w.heap.size + 1 + 1 < r5.heap.size := by omega) | (go_at_call 32; refine (M0 _).mono ?_; rintro _ r6 ⟨rfl, hbr6⟩; obtain ⟨hcr6, hfr6⟩ := bcell hbr6; have hz6 := hbr6.size; (try simp only [World.size_drew] at hz6 hcr6 hfr6); have k7 : w.heap.size + 1 + 1 < r6.heap.size := by omega)) | fail
        all_goals
          have hm4 := ((hm3.on (bl_drew (Below.refl _ _)) (by omega)).on hbr5 (by simp only [World.size_drew]; omega)).on hbr6 (by omega)
          have ht4 := there_on (there_on (there_on ht3 (bl_drew (Below.refl _ _)) (by omega)) hbr5 (by simp only [World.size_drew]; omega)) hbr6 (by omega)
          have ha4 := ((ha3.on (bl_drew (Below.refl _ _)) (by omega)).on hbr5 (by simp only [World.size_drew]; omega)).on hbr6 (by omega)
          have hl4 := ((hl3.on (bl_drew (Below.refl _ _)) (by omega)).on hbr5 (by simp only [World.size_drew]; omega)).on hbr6 (by omega)
          have hb4 := bl_via hbr6 (bl_via hbr5 (bl_drew hb3))
          clear hm3 ht3 ha3 hl3 hbr5 hbr6 p0 p1 hb3 ya yb yc yd hcr5 hfr5 hcr6 hfr6
          go_wp2_with fail
          go_roundw
          case rel =>
            refine ⟨1, by omega, by go_num, by rw [show orb ob 1 = (orb ob 0 || ob 0) from rfl, hout]; simp, (by repeat' (first | (with_reducible exact Below.refl _ _) | (with_reducible refine bl_set ?_ _ ?_) | (with_reducible refine bl_alloc ?_ _) | (with_reducible refine bl_drew ?_) | (with_reducible refine bl_via (by with_reducible assumption) ?_) | (with_reducible assumption) | omega | (simp only []; omega) | (simp; omega))), by simp only [World.size_setCell]; omega, (hm4.far _ _ (by omega)).far _ _ (by omega), there_cell (there_cell ht4 (by omega)) (by omega), Holds.congr ((ha4.set _ _ (by omega)).set _ _ (by omega)) (fun o _ => fill6_next g 0 o), (hl4.set _ _).set _ _⟩
          case measure => simp [intOf]
      · have xa := hm1 4 (by omega)
        have xb := hm1 5 (by omega)
        have xc := hm1 12 (by omega)
        have xd := hm1 13 (by omega)
        have z1 : w.heap.size < wr.heap.size := by omega
        have z2 : w.heap.size + 1 + 1 < wr.heap.size := by omega
        have ecast : ((1 : Nat) : Int) = 1 := rfl
        simp only [ecast]
        clear ecast
        cases hout : orb ob 1
        all_goals
          go_wp2_with fail
          have hecr2 := @Ext.cell2
          refine wp_region_floatl 14 13 _ _ _ _ _ (.cells #[.int .u16 0, .int .u16 0] 25) (by kernel_rfl) rfl rfl (by kernel_rfl) (by kernel_rfl) rfl rfl rfl rfl (fun _ _ => by simp [go_sem]) (fun _ _ d _ _ h => by cases d <;> exact h) (by kernel_rfl) (by kernel_rfl) rfl ?_
          apply Exists.intro
          refine ⟨fun W' => ?_, ?_⟩
          · simp only [List.take_succ_cons, List.take_zero]
            repeat (first | go_big_quiet_skip | (go_big_quiet_want; go_big_quiet_op; first | go_big_quiet_on | (go_big_quiet_call ((first | fail | (go_at_call 31; with_reducible exact ext_call (D1 _)))))))
            exact wpQuiet_nil rfl
          clear hecr2
          simp only [List.drop_succ_cons, List.drop_zero, Act.put, List.setIfInBounds_toArray, List.set_cons_zero, List.set_cons_succ]
          intro B2 r2 hbr2 hBr2 hDr2 hEr2
          have hGr2_0 := block_cell hEr2 0
          have hGr2_1 := block_cell hEr2 1
          have hFr2 := block_free hEr2
          simp only [List.getElem?_toArray, List.getElem?_cons_zero, List.getElem?_cons_succ] at hGr2_0 hGr2_1
          clear hEr2
          try simp only [World.size_alloc, World.size_setCell, World.size_drew] at hBr2
          obtain ⟨hcr2, hfr2⟩ := bcell hbr2
          have hzr2 := hbr2.size
          try simp only [World.size_alloc, World.size_setCell, World.size_drew] at hzr2
          have hm2 := hm1.on hbr2 (by omega)
          have ht2 := there_on ht1 hbr2 (by omega)
          have ha2 := ha1.on hbr2 (by omega)
          have hl2 := hl1.on hbr2 (by omega)
          have hb2 := bl_via hbr2 hb1
          clear hm1 ht1 ha1 hl1 hcr2 hfr2 hbr2 xa xb xc xd hb1
          go_wp2_with fail
          refine wp_gen (fun W => Below w.heap.size w W ∧ (w.heap.size + 1 + 1 + 1 ≤ W.heap.size ∧ B2 < W.heap.size) ∧ Holds W w.heap.size 18 f ∧ W.there (w.heap.size + 1) 0 6 ∧ Holds W (w.heap.size + 1 + 1) 6 (fill6 g 1) ∧ Loose W (w.heap.size + 1 + 1) ∧ W.cell? ⟨B2, 0, none⟩ = some (.int .u16 (d 2)) ∧ W.cell? ⟨B2, 1, none⟩ = some (.int .u16 (d 3))) ⟨(by repeat' (first | (with_reducible exact Below.refl _ _) | (with_reducible refine bl_set ?_ _ ?_) | (with_reducible refine bl_alloc ?_ _) | (with_reducible refine bl_drew ?_) | (with_reducible refine bl_via (by with_reducible assumption) ?_) | (with_reducible assumption) | omega | (simp only []; omega) | (simp; omega))), ⟨by simp only [World.size_setCell]; omega, by simp only [World.size_setCell]; omega⟩, (hm2.far _ _ (by omega)).far _ _ (by omega), there_cell (there_cell ht2 (by omega)) (by omega), (ha2.far _ _ (by omega)).far _ _ (by omega), (hl2.set _ _).set _ _, by go_simp, by go_simp⟩ ?_
          clear hm2 ht2 ha2 hl2 hb2 hGr2_0 hGr2_1 hFr2
          rintro W3 ⟨hb3, ⟨hs3, hs3'⟩, hm3, ht3, ha3, hl3, p0, p1⟩
          have ya := ha3 2 (by omega)
          have yb := ha3 3 (by omega)
          have yc := hl3 2
          have yd := hl3 3
          have z5 : w.heap.size + 1 + 1 < W3.heap.size := by omega
          first | go_region_with (first | (go_at_call 33; refine (T _).mono ?_; rintro _ r5 ⟨rfl, hbr5⟩; obtain ⟨hcr5, hfr5⟩ := bcell hbr5; have hz5 := hbr5.size; (try simp only [World.size_drew] at hz5 hcr5 hfr5); have k5 : w.heap.size + 1 + 1 < r5.heap.size := by omega) | (go_at_call 32; refine (M1 _).mono ?_; rintro _ r6 ⟨rfl, hbr6⟩; obtain ⟨hcr6, hfr6⟩ := bcell hbr6; have hz6 := hbr6.size; (try simp only [World.size_drew] at hz6 hcr6 hfr6); have k7 : w.heap.size + 1 + 1 < r6.heap.size := by omega)) | fail
          all_goals
            have hm4 := ((hm3.on (bl_drew (Below.refl _ _)) (by omega)).on hbr5 (by simp only [World.size_drew]; omega)).on hbr6 (by omega)
            have ht4 := there_on (there_on (there_on ht3 (bl_drew (Below.refl _ _)) (by omega)) hbr5 (by simp only [World.size_drew]; omega)) hbr6 (by omega)
            have ha4 := ((ha3.on (bl_drew (Below.refl _ _)) (by omega)).on hbr5 (by simp only [World.size_drew]; omega)).on hbr6 (by omega)
            have hl4 := ((hl3.on (bl_drew (Below.refl _ _)) (by omega)).on hbr5 (by simp only [World.size_drew]; omega)).on hbr6 (by omega)
            have hb4 := bl_via hbr6 (bl_via hbr5 (bl_drew hb3))
            clear hm3 ht3 ha3 hl3 hbr5 hbr6 p0 p1 hb3 ya yb yc yd hcr5 hfr5 hcr6 hfr6
            go_wp2_with fail
            go_roundw
            case rel =>
              refine ⟨2, by omega, by go_num, by rw [show orb ob 2 = (orb ob 1 || ob 1) from rfl, hout]; simp, (by repeat' (first | (with_reducible exact Below.refl _ _) | (with_reducible refine bl_set ?_ _ ?_) | (with_reducible refine bl_alloc ?_ _) | (with_reducible refine bl_drew ?_) | (with_reducible refine bl_via (by with_reducible assumption) ?_) | (with_reducible assumption) | omega | (simp only []; omega) | (simp; omega))), by simp only [World.size_setCell]; omega, (hm4.far _ _ (by omega)).far _ _ (by omega), there_cell (there_cell ht4 (by omega)) (by omega), Holds.congr ((ha4.set _ _ (by omega)).set _ _ (by omega)) (fun o _ => fill6_next g 1 o), (hl4.set _ _).set _ _⟩
            case measure => simp [intOf]
      · have xa := hm1 6 (by omega)
        have xb := hm1 7 (by omega)
        have xc := hm1 2 (by omega)
        have xd := hm1 3 (by omega)
        have z1 : w.heap.size < wr.heap.size := by omega
        have z2 : w.heap.size + 1 + 1 < wr.heap.size := by omega
        have ecast : ((2 : Nat) : Int) = 2 := rfl
        simp only [ecast]
        clear ecast
        cases hout : orb ob 2
        all_goals
          go_wp2_with fail
          have hecr2 := @Ext.cell2
          refine wp_region_floatl 14 13 _ _ _ _ _ (.cells #[.int .u16 0, .int .u16 0] 25) (by kernel_rfl) rfl rfl (by kernel_rfl) (by kernel_rfl) rfl rfl rfl rfl (fun _ _ => by simp [go_sem]) (fun _ _ d _ _ h => by cases d <;> exact h) (by kernel_rfl) (by kernel_rfl) rfl ?_
          apply Exists.intro
          refine ⟨fun W' => ?_, ?_⟩
          · simp only [List.take_succ_cons, List.take_zero]
            repeat (first | go_big_quiet_skip | (go_big_quiet_want; go_big_quiet_op; first | go_big_quiet_on | (go_big_quiet_call ((first | fail | (go_at_call 31; with_reducible exact ext_call (D2 _)))))))
            exact wpQuiet_nil rfl
          clear hecr2
          simp only [List.drop_succ_cons, List.drop_zero, Act.put, List.setIfInBounds_toArray, List.set_cons_zero, List.set_cons_succ]
          intro B2 r2 hbr2 hBr2 hDr2 hEr2
          have hGr2_0 := block_cell hEr2 0
          have hGr2_1 := block_cell hEr2 1
          have hFr2 := block_free hEr2
          simp only [List.getElem?_toArray, List.getElem?_cons_zero, List.getElem?_cons_succ] at hGr2_0 hGr2_1
          clear hEr2
          try simp only [World.size_alloc, World.size_setCell, World.size_drew] at hBr2
          obtain ⟨hcr2, hfr2⟩ := bcell hbr2
          have hzr2 := hbr2.size
          try simp only [World.size_alloc, World.size_setCell, World.size_drew] at hzr2
          have hm2 := hm1.on hbr2 (by omega)
          have ht2 := there_on ht1 hbr2 (by omega)
          have ha2 := ha1.on hbr2 (by omega)
          have hl2 := hl1.on hbr2 (by omega)
          have hb2 := bl_via hbr2 hb1
          clear hm1 ht1 ha1 hl1 hcr2 hfr2 hbr2 xa xb xc xd hb1
          go_wp2_with fail
          refine wp_gen (fun W => Below w.heap.size w W ∧ (w.heap.size + 1 + 1 + 1 ≤ W.heap.size ∧ B2 < W.heap.size) ∧ Holds W w.heap.size 18 f ∧ W.there (w.heap.size + 1) 0 6 ∧ Holds W (w.heap.size + 1 + 1) 6 (fill6 g 2) ∧ Loose W (w.heap.size + 1 + 1) ∧ W.cell? ⟨B2, 0, none⟩ = some (.int .u16 (d 4)) ∧ W.cell? ⟨B2, 1, none⟩ = some (.int .u16 (d 5))) ⟨(by repeat' (first | (with_reducible exact Below.refl _ _) | (with_reducible refine bl_set ?_ _ ?_) | (with_reducible refine bl_alloc ?_ _) | (with_reducible refine bl_drew ?_) | (with_reducible refine bl_via (by with_reducible assumption) ?_) | (with_reducible assumption) | omega | (simp only []; omega) | (simp; omega))), ⟨by simp only [World.size_setCell]; omega, by simp only [World.size_setCell]; omega⟩, (hm2.far _ _ (by omega)).far _ _ (by omega), there_cell (there_cell ht2 (by omega)) (by omega), (ha2.far _ _ (by omega)).far _ _ (by omega), (hl2.set _ _).set _ _, by go_simp, by go_simp⟩ ?_
          clear hm2 ht2 ha2 hl2 hb2 hGr2_0 hGr2_1 hFr2
          rintro W3 ⟨hb3, ⟨hs3, hs3'⟩, hm3, ht3, ha3, hl3, p0, p1⟩
          have ya := ha3 4 (by omega)
          have yb := ha3 5 (by omega)
          have yc := hl3 4
          have yd := hl3 5
          have z5 : w.heap.size + 1 + 1 < W3.heap.size := by omega
          first | go_region_with (first | (go_at_call 33; refine (T _).mono ?_; rintro _ r5 ⟨rfl, hbr5⟩; obtain ⟨hcr5, hfr5⟩ := bcell hbr5; have hz5 := hbr5.size; (try simp only [World.size_drew] at hz5 hcr5 hfr5); have k5 : w.heap.size + 1 + 1 < r5.heap.size := by omega) | (go_at_call 32; refine (M2 _).mono ?_; rintro _ r6 ⟨rfl, hbr6⟩; obtain ⟨hcr6, hfr6⟩ := bcell hbr6; have hz6 := hbr6.size; (try simp only [World.size_drew] at hz6 hcr6 hfr6); have k7 : w.heap.size + 1 + 1 < r6.heap.size := by omega)) | fail
          all_goals
            have hm4 := ((hm3.on (bl_drew (Below.refl _ _)) (by omega)).on hbr5 (by simp only [World.size_drew]; omega)).on hbr6 (by omega)
            have ht4 := there_on (there_on (there_on ht3 (bl_drew (Below.refl _ _)) (by omega)) hbr5 (by simp only [World.size_drew]; omega)) hbr6 (by omega)
            have ha4 := ((ha3.on (bl_drew (Below.refl _ _)) (by omega)).on hbr5 (by simp only [World.size_drew]; omega)).on hbr6 (by omega)
            have hl4 := ((hl3.on (bl_drew (Below.refl _ _)) (by omega)).on hbr5 (by simp only [World.size_drew]; omega)).on hbr6 (by omega)
            have hb4 := bl_via hbr6 (bl_via hbr5 (bl_drew hb3))
            clear hm3 ht3 ha3 hl3 hbr5 hbr6 p0 p1 hb3 ya yb yc yd hcr5 hfr5 hcr6 hfr6
            go_wp2_with fail
            go_roundw
            case rel =>
              refine ⟨3, by omega, by go_num, by rw [show orb ob 3 = (orb ob 2 || ob 2) from rfl, hout]; simp, (by repeat' (first | (with_reducible exact Below.refl _ _) | (with_reducible refine bl_set ?_ _ ?_) | (with_reducible refine bl_alloc ?_ _) | (with_reducible refine bl_drew ?_) | (with_reducible refine bl_via (by with_reducible assumption) ?_) | (with_reducible assumption) | omega | (simp only []; omega) | (simp; omega))), by simp only [World.size_setCell]; omega, (hm4.far _ _ (by omega)).far _ _ (by omega), there_cell (there_cell ht4 (by omega)) (by omega), Holds.congr ((ha4.set _ _ (by omega)).set _ _ (by omega)) (fun o _ => fill6_next g 2 o), (hl4.set _ _).set _ _⟩
            case measure => simp [intOf]
    · obtain rfl : i = 3 := by omega
      have ha2 := ha1.congr (g' := g) (fun o ho => by unfold fill6; rw [if_pos (by omega)])
      clear ha1 hm1 hl1
      go_wp2_with (first | fail | (refine WL.h ?_; refine wl_load (op := { dst := some 44, op := .load 27 (.tmp 4), type := _, pos := _, after := _, guard := none }) rfl 27 (.tmp 4) rfl (w.heap.size + 1 + 1) 0 rfl [.int .u16 (g 0), .int .u16 (g 1), .int .u16 (g 2), .int .u16 (g 3), .int .u16 (g 4), .int .u16 (g 5)] _ (range6c ha2) hu_vec rfl hi_vec ?_; simp only [Act.put, List.setIfInBounds_toArray, List.set_cons_zero, List.set_cons_succ]) | (refine WL.h ?_; refine wl_store (op := { dst := none, op := .store 27 (.tmp 2) (.tmp 44), type := _, pos := _, after := _, guard := none }) rfl 27 (.tmp 2) (.tmp 44) rfl (w.heap.size + 1) 0 _ rfl rfl ht1 hi_vec (by simp [Value.oneCell']) ?_; simp only [Act.put, List.setIfInBounds_toArray, List.set_cons_zero, List.set_cons_succ]))
      refine bodyPost_ret (v := (.tuple #[(.agg #[.int .u16 (g 0), .int .u16 (g 1), .int .u16 (g 2), .int .u16 (g 3), .int .u16 (g 4), .int .u16 (g 5)]), .bool (orb ob 3)])) (results_two Tryd.results12 rfl rfl (run_loadVar_mid _ _ 0 _ _ _ (World.rangeAt_setCells_same _ _ _ _ ht1) hu_vec rfl hi_vec)) rfl ⟨rfl, bl_cells _ _ _ _ (by repeat' (first | (with_reducible exact Below.refl _ _) | (with_reducible refine bl_set ?_ _ ?_) | (with_reducible refine bl_alloc ?_ _) | (with_reducible refine bl_drew ?_) | (with_reducible refine bl_via (by with_reducible assumption) ?_) | (with_reducible assumption) | omega | (simp only []; omega) | (simp; omega))) (by omega)⟩
set_option maxRecDepth 100000 in
set_option maxHeartbeats 8000000 in
theorem rangles_fn (f g d u v : Nat → Int) (t0 t1 : Int) (ob : Nat → Bool) (ub : ∀ i, i < 3 → -268435455 ≤ u i ∧ u i ≤ 268435455) (vb : ∀ i, i < 3 → -268435455 ≤ v i ∧ v i ≤ 268435455)
    (U0 : (∀ w, Calls Tryd.prog 22 #[(.agg #[.int .u16 (f 14), .int .u16 (f 15)])] w fun e w' => e = .returned (.int .i64 (u 0)) ∧ Below w.heap.size w w'))
    (V0 : (∀ w, Calls Tryd.prog 22 #[(.agg #[.int .u16 (f 10), .int .u16 (f 11)])] w fun e w' => e = .returned (.int .i64 (v 0)) ∧ Below w.heap.size w w'))
    (D0 : (∀ w, Calls Tryd.prog 34 #[.int .i64 (u 0 - v 0)] w fun e w' => e = .returned (.tuple #[(.agg #[.int .u16 (d 0), .int .u16 (d 1)]), .bool (ob 0)]) ∧ Below w.heap.size w w'))
    (U1 : (∀ w, Calls Tryd.prog 22 #[(.agg #[.int .u16 (f 4), .int .u16 (f 5)])] w fun e w' => e = .returned (.int .i64 (u 1)) ∧ Below w.heap.size w w'))
    (V1 : (∀ w, Calls Tryd.prog 22 #[(.agg #[.int .u16 (f 12), .int .u16 (f 13)])] w fun e w' => e = .returned (.int .i64 (v 1)) ∧ Below w.heap.size w w'))
    (D1 : (∀ w, Calls Tryd.prog 34 #[.int .i64 (u 1 - v 1)] w fun e w' => e = .returned (.tuple #[(.agg #[.int .u16 (d 2), .int .u16 (d 3)]), .bool (ob 1)]) ∧ Below w.heap.size w w'))
    (U2 : (∀ w, Calls Tryd.prog 22 #[(.agg #[.int .u16 (f 6), .int .u16 (f 7)])] w fun e w' => e = .returned (.int .i64 (u 2)) ∧ Below w.heap.size w w'))
    (V2 : (∀ w, Calls Tryd.prog 22 #[(.agg #[.int .u16 (f 2), .int .u16 (f 3)])] w fun e w' => e = .returned (.int .i64 (v 2)) ∧ Below w.heap.size w w'))
    (D2 : (∀ w, Calls Tryd.prog 34 #[.int .i64 (u 2 - v 2)] w fun e w' => e = .returned (.tuple #[(.agg #[.int .u16 (d 4), .int .u16 (d 5)]), .bool (ob 2)]) ∧ Below w.heap.size w w'))
    (T : (∀ w, Calls Tryd.prog 29 #[.int .i64 42722830] w fun e w' => e = .returned (.agg #[.int .u16 (t0), .int .u16 (t1)]) ∧ Below w.heap.size w w'))
    (M0 : (∀ w, Calls Tryd.prog 35 #[(.agg #[.int .u16 (d 0), .int .u16 (d 1)]), (.agg #[.int .u16 (t0), .int .u16 (t1)])] w fun e w' => e = .returned (.agg #[.int .u16 (g 0), .int .u16 (g 1)]) ∧ Below w.heap.size w w'))
    (M1 : (∀ w, Calls Tryd.prog 35 #[(.agg #[.int .u16 (d 2), .int .u16 (d 3)]), (.agg #[.int .u16 (t0), .int .u16 (t1)])] w fun e w' => e = .returned (.agg #[.int .u16 (g 2), .int .u16 (g 3)]) ∧ Below w.heap.size w w'))
    (M2 : (∀ w, Calls Tryd.prog 35 #[(.agg #[.int .u16 (d 4), .int .u16 (d 5)]), (.agg #[.int .u16 (t0), .int .u16 (t1)])] w fun e w' => e = .returned (.agg #[.int .u16 (g 4), .int .u16 (g 5)]) ∧ Below w.heap.size w w')) (w : World) :
    Calls Tryd.prog 13 #[(.agg #[.int .u16 (f 0), .int .u16 (f 1), .int .u16 (f 2), .int .u16 (f 3), .int .u16 (f 4), .int .u16 (f 5), .int .u16 (f 6), .int .u16 (f 7), .int .u16 (f 8), .int .u16 (f 9), .int .u16 (f 10), .int .u16 (f 11), .int .u16 (f 12), .int .u16 (f 13), .int .u16 (f 14), .int .u16 (f 15), .int .u16 (f 16), .int .u16 (f 17)])] w fun e w' => e = .returned (.tuple #[(.agg #[.int .u16 (g 0), .int .u16 (g 1), .int .u16 (g 2), .int .u16 (g 3), .int .u16 (g 4), .int .u16 (g 5)]), .bool (orb ob 3)]) ∧ Below w.heap.size w w' := by
  have UB := keep ub
  have VB := keep vb
  clear ub vb
  go_enter Tryd.func13, Tryd.ntmps13
  go_wp2_with fail
  refine wp_gen (fun W => Below w.heap.size w W ∧ w.heap.size + 1 + 1 + 1 ≤ W.heap.size ∧ Holds W w.heap.size 18 f ∧ W.there (w.heap.size + 1) 0 6 ∧ Holds W (w.heap.size + 1 + 1) 6 (fill6 g 0) ∧ Loose W (w.heap.size + 1 + 1)) ⟨(by repeat' (first | (with_reducible exact Below.refl _ _) | (with_reducible refine bl_set ?_ _ ?_) | (with_reducible refine bl_alloc ?_ _) | (with_reducible refine bl_drew ?_) | (with_reducible refine bl_via (by with_reducible assumption) ?_) | (with_reducible assumption) | omega | (simp only []; omega) | (simp; omega))), by simp, ?_, ?_, ?_, ?_⟩ ?_
  · apply all18 <;> go_simp
  · exact there6 (v0 := .int .u16 0) (v1 := .int .u16 0) (v2 := .int .u16 0) (v3 := .int .u16 0) (v4 := .int .u16 0) (v5 := .int .u16 0) (by go_simp) (by go_simp) (by go_simp) (by go_simp) (by go_simp) (by go_simp) (fun o => by go_simp)
  · apply all6 <;> (show _ = some (Value.int .u16 0); go_simp)
  · intro o; go_simp
  rintro W0 ⟨hb0, hs0, hm0, ht0, ha0, hl0⟩
  go_loopw [5, 6] (fun out v W => ∃ i : Nat, i ≤ 3 ∧ v = .int .i64 i ∧ out = .bool (orb ob i) ∧ Below w.heap.size w W ∧ w.heap.size + 1 + 1 + 1 ≤ W.heap.size ∧ Holds W w.heap.size 18 f ∧ W.there (w.heap.size + 1) 0 6 ∧ Holds W (w.heap.size + 1 + 1) 6 (fill6 g i) ∧ Loose W (w.heap.size + 1 + 1)) (fun _ v _ => (3 - intOf v).toNat)
  case atStart => exact ⟨0, by omega, rfl, rfl, hb0, hs0, hm0, ht0, ha0, hl0⟩
  case round =>
    clear hb0 hs0 hm0 ht0 ha0 hl0
    obtain ⟨i, hI, rfl, rfl, hb1, hs1, hm1, ht1, ha1, hl1⟩ := hrel
    by_cases hlt : i < 3
    · rcases (show i = 0 ∨ i = 1 ∨ i = 2 by omega) with rfl | rfl | rfl
      · have xa := hm1 14 (by omega)
        have xb := hm1 15 (by omega)
        have xc := hm1 10 (by omega)
        have xd := hm1 11 (by omega)
        have z1 : w.heap.size < wr.heap.size := by omega
        have z2 : w.heap.size + 1 + 1 < wr.heap.size := by omega
        obtain ⟨u0, u1⟩ := UB.out 0 (by omega)
        obtain ⟨v0, v1⟩ := VB.out 0 (by omega)
        have ecast : ((0 : Nat) : Int) = 0 := rfl
        simp only [ecast]
        clear ecast
        have hout : orb ob 0 = false := rfl
        simp only [hout]
        go_wp2_with fail
        have hecr2 := @Ext.cell2
        refine wp_region_floatl 17 16 _ _ _ _ _ (.cells #[.int .u16 0, .int .u16 0] 25) (by kernel_rfl) rfl rfl (by kernel_rfl) (by kernel_rfl) rfl rfl rfl rfl (fun _ _ => by simp [go_sem]) (fun _ _ d _ _ h => by cases d <;> exact h) (by kernel_rfl) (by kernel_rfl) rfl ?_
        apply Exists.intro
        refine ⟨fun W' => ?_, ?_⟩
        · simp only [List.take_succ_cons, List.take_zero]
          repeat (first | go_big_quiet_skip | (go_big_quiet_want; go_big_quiet_op; first | go_big_quiet_on | (go_big_quiet_call ((first | fail | (go_at_call 22; with_reducible exact ext_call (U0 _)) | (go_at_call 22; with_reducible exact ext_call (V0 _)) | (go_at_call 34; with_reducible exact ext_call (D0 _)))))))
          exact wpQuiet_nil rfl
        clear hecr2
        simp only [List.drop_succ_cons, List.drop_zero, Act.put, List.setIfInBounds_toArray, List.set_cons_zero, List.set_cons_succ]
        intro B2 r2 hbr2 hBr2 hDr2 hEr2
        have hGr2_0 := block_cell hEr2 0
        have hGr2_1 := block_cell hEr2 1
        have hFr2 := block_free hEr2
        simp only [List.getElem?_toArray, List.getElem?_cons_zero, List.getElem?_cons_succ] at hGr2_0 hGr2_1
        clear hEr2
        try simp only [World.size_alloc, World.size_setCell, World.size_drew] at hBr2
        obtain ⟨hcr2, hfr2⟩ := bcell hbr2
        have hzr2 := hbr2.size
        try simp only [World.size_alloc, World.size_setCell, World.size_drew] at hzr2
        have hm2 := hm1.on hbr2 (by omega)
        have ht2 := there_on ht1 hbr2 (by omega)
        have ha2 := ha1.on hbr2 (by omega)
        have hl2 := hl1.on hbr2 (by omega)
        have hb2 := bl_via hbr2 hb1
        clear hm1 ht1 ha1 hl1 hcr2 hfr2 hbr2 xa xb xc xd hb1
        go_wp2_with fail
        refine wp_gen (fun W => Below w.heap.size w W ∧ (w.heap.size + 1 + 1 + 1 ≤ W.heap.size ∧ B2 < W.heap.size) ∧ Holds W w.heap.size 18 f ∧ W.there (w.heap.size + 1) 0 6 ∧ Holds W (w.heap.size + 1 + 1) 6 (fill6 g 0) ∧ Loose W (w.heap.size + 1 + 1) ∧ W.cell? ⟨B2, 0, none⟩ = some (.int .u16 (d 0)) ∧ W.cell? ⟨B2, 1, none⟩ = some (.int .u16 (d 1))) ⟨(by repeat' (first | (with_reducible exact Below.refl _ _) | (with_reducible refine bl_set ?_ _ ?_) | (with_reducible refine bl_alloc ?_ _) | (with_reducible refine bl_drew ?_) | (with_reducible refine bl_via (by with_reducible assumption) ?_) | (with_reducible assumption) | omega | (simp only []; omega) | (simp; omega))), ⟨by simp only [World.size_setCell]; omega, by simp only [World.size_setCell]; omega⟩, (hm2.far _ _ (by omega)).far _ _ (by omega), there_cell (there_cell ht2 (by omega)) (by omega), (ha2.far _ _ (by omega)).far _ _ (by omega), (hl2.set _ _).set _ _, by go_simp, by go_simp⟩ ?_
        clear hm2 ht2 ha2 hl2 hb2 hGr2_0 hGr2_1 hFr2
        rintro W3 ⟨hb3, ⟨hs3, hs3'⟩, hm3, ht3, ha3, hl3, p0, p1⟩
        have hecr4 := @Ext.cell
        refine wp_region_ext_tail 5 (by kernel_rfl) (by kernel_rfl) ?_
        simp only [List.take_succ_cons, List.take_zero, List.drop_succ_cons, List.drop_zero]
        repeat (first | go_big_quiet_skip | (go_big_quiet_want; go_big_quiet_op; first | go_big_quiet_on | (go_big_quiet_call ((first | fail | (go_at_call 29; with_reducible exact ext_call (T _)) | (go_at_call 35; with_reducible exact ext_call (M0 _)))))))
        clear hecr4
        refine wpQuiet_nil ?_
        rintro r4 ⟨⟨_, hbr4⟩, rfl⟩
        obtain ⟨hcr4, hfr4⟩ := bcell hbr4
        have hzr4 := hbr4.size
        try simp only [World.size_alloc, World.size_setCell, World.size_drew] at hzr4
        have hm4 := hm3.on hbr4 (by omega)
        have ht4 := there_on ht3 hbr4 (by omega)
        have ha4 := ha3.on hbr4 (by omega)
        have hl4 := hl3.on hbr4 (by omega)
        have hb4 := bl_via hbr4 hb3
        have ya := ha4 0 (by omega)
        have yb := ha4 1 (by omega)
        have yc := hl4 0
        have yd := hl4 1
        clear hm3 ht3 ha3 hl3 hcr4 hfr4 hbr4 p0 p1 hb3
        go_wp2_with fail
        go_roundw
        case rel =>
          refine ⟨1, by omega, by go_num, by rw [show orb ob 1 = (orb ob 0 || ob 0) from rfl, hout]; simp, (by repeat' (first | (with_reducible exact Below.refl _ _) | (with_reducible refine bl_set ?_ _ ?_) | (with_reducible refine bl_alloc ?_ _) | (with_reducible refine bl_drew ?_) | (with_reducible refine bl_via (by with_reducible assumption) ?_) | (with_reducible assumption) | omega | (simp only []; omega) | (simp; omega))), by simp only [World.size_setCell]; omega, (hm4.far _ _ (by omega)).far _ _ (by omega), there_cell (there_cell ht4 (by omega)) (by omega), Holds.congr ((ha4.set _ _ (by omega)).set _ _ (by omega)) (fun o _ => fill6_next g 0 o), (hl4.set _ _).set _ _⟩
        case measure => simp [intOf]
      · have xa := hm1 4 (by omega)
        have xb := hm1 5 (by omega)
        have xc := hm1 12 (by omega)
        have xd := hm1 13 (by omega)
        have z1 : w.heap.size < wr.heap.size := by omega
        have z2 : w.heap.size + 1 + 1 < wr.heap.size := by omega
        obtain ⟨u0, u1⟩ := UB.out 1 (by omega)
        obtain ⟨v0, v1⟩ := VB.out 1 (by omega)
        have ecast : ((1 : Nat) : Int) = 1 := rfl
        simp only [ecast]
        clear ecast
        cases hout : orb ob 1
        all_goals
          go_wp2_with fail
          have hecr2 := @Ext.cell2
          refine wp_region_floatl 17 16 _ _ _ _ _ (.cells #[.int .u16 0, .int .u16 0] 25) (by kernel_rfl) rfl rfl (by kernel_rfl) (by kernel_rfl) rfl rfl rfl rfl (fun _ _ => by simp [go_sem]) (fun _ _ d _ _ h => by cases d <;> exact h) (by kernel_rfl) (by kernel_rfl) rfl ?_
          apply Exists.intro
          refine ⟨fun W' => ?_, ?_⟩
          · simp only [List.take_succ_cons, List.take_zero]
            repeat (first | go_big_quiet_skip | (go_big_quiet_want; go_big_quiet_op; first | go_big_quiet_on | (go_big_quiet_call ((first | fail | (go_at_call 22; with_reducible exact ext_call (U1 _)) | (go_at_call 22; with_reducible exact ext_call (V1 _)) | (go_at_call 34; with_reducible exact ext_call (D1 _)))))))
            exact wpQuiet_nil rfl
          clear hecr2
          simp only [List.drop_succ_cons, List.drop_zero, Act.put, List.setIfInBounds_toArray, List.set_cons_zero, List.set_cons_succ]
          intro B2 r2 hbr2 hBr2 hDr2 hEr2
          have hGr2_0 := block_cell hEr2 0
          have hGr2_1 := block_cell hEr2 1
          have hFr2 := block_free hEr2
          simp only [List.getElem?_toArray, List.getElem?_cons_zero, List.getElem?_cons_succ] at hGr2_0 hGr2_1
          clear hEr2
          try simp only [World.size_alloc, World.size_setCell, World.size_drew] at hBr2
          obtain ⟨hcr2, hfr2⟩ := bcell hbr2
          have hzr2 := hbr2.size
          try simp only [World.size_alloc, World.size_setCell, World.size_drew] at hzr2
          have hm2 := hm1.on hbr2 (by omega)
          have ht2 := there_on ht1 hbr2 (by omega)
          have ha2 := ha1.on hbr2 (by omega)
          have hl2 := hl1.on hbr2 (by omega)
          have hb2 := bl_via hbr2 hb1
          clear hm1 ht1 ha1 hl1 hcr2 hfr2 hbr2 xa xb xc xd hb1
          go_wp2_with fail
          refine wp_gen (fun W => Below w.heap.size w W ∧ (w.heap.size + 1 + 1 + 1 ≤ W.heap.size ∧ B2 < W.heap.size) ∧ Holds W w.heap.size 18 f ∧ W.there (w.heap.size + 1) 0 6 ∧ Holds W (w.heap.size + 1 + 1) 6 (fill6 g 1) ∧ Loose W (w.heap.size + 1 + 1) ∧ W.cell? ⟨B2, 0, none⟩ = some (.int .u16 (d 2)) ∧ W.cell? ⟨B2, 1, none⟩ = some (.int .u16 (d 3))) ⟨(by repeat' (first | (with_reducible exact Below.refl _ _) | (with_reducible refine bl_set ?_ _ ?_) | (with_reducible refine bl_alloc ?_ _) | (with_reducible refine bl_drew ?_) | (with_reducible refine bl_via (by with_reducible assumption) ?_) | (with_reducible assumption) | omega | (simp only []; omega) | (simp; omega))), ⟨by simp only [World.size_setCell]; omega, by simp only [World.size_setCell]; omega⟩, (hm2.far _ _ (by omega)).far _ _ (by omega), there_cell (there_cell ht2 (by omega)) (by omega), (ha2.far _ _ (by omega)).far _ _ (by omega), (hl2.set _ _).set _ _, by go_simp, by go_simp⟩ ?_
          clear hm2 ht2 ha2 hl2 hb2 hGr2_0 hGr2_1 hFr2
          rintro W3 ⟨hb3, ⟨hs3, hs3'⟩, hm3, ht3, ha3, hl3, p0, p1⟩
          have hecr4 := @Ext.cell
          refine wp_region_ext_tail 5 (by kernel_rfl) (by kernel_rfl) ?_
          simp only [List.take_succ_cons, List.take_zero, List.drop_succ_cons, List.drop_zero]
          repeat (first | go_big_quiet_skip | (go_big_quiet_want; go_big_quiet_op; first | go_big_quiet_on | (go_big_quiet_call ((first | fail | (go_at_call 29; with_reducible exact ext_call (T _)) | (go_at_call 35; with_reducible exact ext_call (M1 _)))))))
          clear hecr4
          refine wpQuiet_nil ?_
          rintro r4 ⟨⟨_, hbr4⟩, rfl⟩
          obtain ⟨hcr4, hfr4⟩ := bcell hbr4
          have hzr4 := hbr4.size
          try simp only [World.size_alloc, World.size_setCell, World.size_drew] at hzr4
          have hm4 := hm3.on hbr4 (by omega)
          have ht4 := there_on ht3 hbr4 (by omega)
          have ha4 := ha3.on hbr4 (by omega)
          have hl4 := hl3.on hbr4 (by omega)
          have hb4 := bl_via hbr4 hb3
          have ya := ha4 2 (by omega)
          have yb := ha4 3 (by omega)
          have yc := hl4 2
          have yd := hl4 3
          clear hm3 ht3 ha3 hl3 hcr4 hfr4 hbr4 p0 p1 hb3
          go_wp2_with fail
          go_roundw
          case rel =>
            refine ⟨2, by omega, by go_num, by rw [show orb ob 2 = (orb ob 1 || ob 1) from rfl, hout]; simp, (by repeat' (first | (with_reducible exact Below.refl _ _) | (with_reducible refine bl_set ?_ _ ?_) | (with_reducible refine bl_alloc ?_ _) | (with_reducible refine bl_drew ?_) | (with_reducible refine bl_via (by with_reducible assumption) ?_) | (with_reducible assumption) | omega | (simp only []; omega) | (simp; omega))), by simp only [World.size_setCell]; omega, (hm4.far _ _ (by omega)).far _ _ (by omega), there_cell (there_cell ht4 (by omega)) (by omega), Holds.congr ((ha4.set _ _ (by omega)).set _ _ (by omega)) (fun o _ => fill6_next g 1 o), (hl4.set _ _).set _ _⟩
          case measure => simp [intOf]
      · have xa := hm1 6 (by omega)
        have xb := hm1 7 (by omega)
        have xc := hm1 2 (by omega)
        have xd := hm1 3 (by omega)
        have z1 : w.heap.size < wr.heap.size := by omega
        have z2 : w.heap.size + 1 + 1 < wr.heap.size := by omega
        obtain ⟨u0, u1⟩ := UB.out 2 (by omega)
        obtain ⟨v0, v1⟩ := VB.out 2 (by omega)
        have ecast : ((2 : Nat) : Int) = 2 := rfl
        simp only [ecast]
        clear ecast
        cases hout : orb ob 2
        all_goals
          go_wp2_with fail
          have hecr2 := @Ext.cell2
          refine wp_region_floatl 17 16 _ _ _ _ _ (.cells #[.int .u16 0, .int .u16 0] 25) (by kernel_rfl) rfl rfl (by kernel_rfl) (by kernel_rfl) rfl rfl rfl rfl (fun _ _ => by simp [go_sem]) (fun _ _ d _ _ h => by cases d <;> exact h) (by kernel_rfl) (by kernel_rfl) rfl ?_
          apply Exists.intro
          refine ⟨fun W' => ?_, ?_⟩
          · simp only [List.take_succ_cons, List.take_zero]
            repeat (first | go_big_quiet_skip | (go_big_quiet_want; go_big_quiet_op; first | go_big_quiet_on | (go_big_quiet_call ((first | fail | (go_at_call 22; with_reducible exact ext_call (U2 _)) | (go_at_call 22; with_reducible exact ext_call (V2 _)) | (go_at_call 34; with_reducible exact ext_call (D2 _)))))))
            exact wpQuiet_nil rfl
          clear hecr2
          simp only [List.drop_succ_cons, List.drop_zero, Act.put, List.setIfInBounds_toArray, List.set_cons_zero, List.set_cons_succ]
          intro B2 r2 hbr2 hBr2 hDr2 hEr2
          have hGr2_0 := block_cell hEr2 0
          have hGr2_1 := block_cell hEr2 1
          have hFr2 := block_free hEr2
          simp only [List.getElem?_toArray, List.getElem?_cons_zero, List.getElem?_cons_succ] at hGr2_0 hGr2_1
          clear hEr2
          try simp only [World.size_alloc, World.size_setCell, World.size_drew] at hBr2
          obtain ⟨hcr2, hfr2⟩ := bcell hbr2
          have hzr2 := hbr2.size
          try simp only [World.size_alloc, World.size_setCell, World.size_drew] at hzr2
          have hm2 := hm1.on hbr2 (by omega)
          have ht2 := there_on ht1 hbr2 (by omega)
          have ha2 := ha1.on hbr2 (by omega)
          have hl2 := hl1.on hbr2 (by omega)
          have hb2 := bl_via hbr2 hb1
          clear hm1 ht1 ha1 hl1 hcr2 hfr2 hbr2 xa xb xc xd hb1
          go_wp2_with fail
          refine wp_gen (fun W => Below w.heap.size w W ∧ (w.heap.size + 1 + 1 + 1 ≤ W.heap.size ∧ B2 < W.heap.size) ∧ Holds W w.heap.size 18 f ∧ W.there (w.heap.size + 1) 0 6 ∧ Holds W (w.heap.size + 1 + 1) 6 (fill6 g 2) ∧ Loose W (w.heap.size + 1 + 1) ∧ W.cell? ⟨B2, 0, none⟩ = some (.int .u16 (d 4)) ∧ W.cell? ⟨B2, 1, none⟩ = some (.int .u16 (d 5))) ⟨(by repeat' (first | (with_reducible exact Below.refl _ _) | (with_reducible refine bl_set ?_ _ ?_) | (with_reducible refine bl_alloc ?_ _) | (with_reducible refine bl_drew ?_) | (with_reducible refine bl_via (by with_reducible assumption) ?_) | (with_reducible assumption) | omega | (simp only []; omega) | (simp; omega))), ⟨by simp only [World.size_setCell]; omega, by simp only [World.size_setCell]; omega⟩, (hm2.far _ _ (by omega)).far _ _ (by omega), there_cell (there_cell ht2 (by omega)) (by omega), (ha2.far _ _ (by omega)).far _ _ (by omega), (hl2.set _ _).set _ _, by go_simp, by go_simp⟩ ?_
          clear hm2 ht2 ha2 hl2 hb2 hGr2_0 hGr2_1 hFr2
          rintro W3 ⟨hb3, ⟨hs3, hs3'⟩, hm3, ht3, ha3, hl3, p0, p1⟩
          have hecr4 := @Ext.cell
          refine wp_region_ext_tail 5 (by kernel_rfl) (by kernel_rfl) ?_
          simp only [List.take_succ_cons, List.take_zero, List.drop_succ_cons, List.drop_zero]
          repeat (first | go_big_quiet_skip | (go_big_quiet_want; go_big_quiet_op; first | go_big_quiet_on | (go_big_quiet_call ((first | fail | (go_at_call 29; with_reducible exact ext_call (T _)) | (go_at_call 35; with_reducible exact ext_call (M2 _)))))))
          clear hecr4
          refine wpQuiet_nil ?_
          rintro r4 ⟨⟨_, hbr4⟩, rfl⟩
          obtain ⟨hcr4, hfr4⟩ := bcell hbr4
          have hzr4 := hbr4.size
          try simp only [World.size_alloc, World.size_setCell, World.size_drew] at hzr4
          have hm4 := hm3.on hbr4 (by omega)
          have ht4 := there_on ht3 hbr4 (by omega)
          have ha4 := ha3.on hbr4 (by omega)
          have hl4 := hl3.on hbr4 (by omega)
          have hb4 := bl_via hbr4 hb3
          have ya := ha4 4 (by omega)
          have yb := ha4 5 (by omega)
          have yc := hl4 4
          have yd := hl4 5
          clear hm3 ht3 ha3 hl3 hcr4 hfr4 hbr4 p0 p1 hb3
          go_wp2_with fail
          go_roundw
          case rel =>
            refine ⟨3, by omega, by go_num, by rw [show orb ob 3 = (orb ob 2 || ob 2) from rfl, hout]; simp, (by repeat' (first | (with_reducible exact Below.refl _ _) | (with_reducible refine bl_set ?_ _ ?_) | (with_reducible refine bl_alloc ?_ _) | (with_reducible refine bl_drew ?_) | (with_reducible refine bl_via (by with_reducible assumption) ?_) | (with_reducible assumption) | omega | (simp only []; omega) | (simp; omega))), by simp only [World.size_setCell]; omega, (hm4.far _ _ (by omega)).far _ _ (by omega), there_cell (there_cell ht4 (by omega)) (by omega), Holds.congr ((ha4.set _ _ (by omega)).set _ _ (by omega)) (fun o _ => fill6_next g 2 o), (hl4.set _ _).set _ _⟩
          case measure => simp [intOf]
    · obtain rfl : i = 3 := by omega
      have ha2 := ha1.congr (g' := g) (fun o ho => by unfold fill6; rw [if_pos (by omega)])
      clear ha1 hm1 hl1
      go_wp2_with (first | fail | (refine WL.h ?_; refine wl_load (op := { dst := some 48, op := .load 27 (.tmp 4), type := _, pos := _, after := _, guard := none }) rfl 27 (.tmp 4) rfl (w.heap.size + 1 + 1) 0 rfl [.int .u16 (g 0), .int .u16 (g 1), .int .u16 (g 2), .int .u16 (g 3), .int .u16 (g 4), .int .u16 (g 5)] _ (range6c ha2) hu_vec rfl hi_vec ?_; simp only [Act.put, List.setIfInBounds_toArray, List.set_cons_zero, List.set_cons_succ]) | (refine WL.h ?_; refine wl_store (op := { dst := none, op := .store 27 (.tmp 2) (.tmp 48), type := _, pos := _, after := _, guard := none }) rfl 27 (.tmp 2) (.tmp 48) rfl (w.heap.size + 1) 0 _ rfl rfl ht1 hi_vec (by simp [Value.oneCell']) ?_; simp only [Act.put, List.setIfInBounds_toArray, List.set_cons_zero, List.set_cons_succ]))
      refine bodyPost_ret (v := (.tuple #[(.agg #[.int .u16 (g 0), .int .u16 (g 1), .int .u16 (g 2), .int .u16 (g 3), .int .u16 (g 4), .int .u16 (g 5)]), .bool (orb ob 3)])) (results_two Tryd.results13 rfl rfl (run_loadVar_mid _ _ 0 _ _ _ (World.rangeAt_setCells_same _ _ _ _ ht1) hu_vec rfl hi_vec)) rfl ⟨rfl, bl_cells _ _ _ _ (by repeat' (first | (with_reducible exact Below.refl _ _) | (with_reducible refine bl_set ?_ _ ?_) | (with_reducible refine bl_alloc ?_ _) | (with_reducible refine bl_drew ?_) | (with_reducible refine bl_via (by with_reducible assumption) ?_) | (with_reducible assumption) | omega | (simp only []; omega) | (simp; omega))) (by omega)⟩
end Go.Proofs.YtbbhppjamighdaaDoor
