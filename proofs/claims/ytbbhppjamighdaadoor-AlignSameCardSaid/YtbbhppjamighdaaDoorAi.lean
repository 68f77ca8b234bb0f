/- Contracts of Pulses, of package align and of its reference, over this translation: what they return, given what their callees return. -/
import Derived.Test.YtbbhppjamighdaaDoorAf
import Derived.Test.YtbbhppjamighdaaDoorEq
namespace Go.Proofs.YtbbhppjamighdaaDoor
set_option linter.unusedSimpArgs false
set_option linter.unusedVariables false
open Go.RowKit

/-- The first n cells of block b hold the numbers of g. -/
def HoldsN (w : World) (b n : Nat) (g : Nat → Int) : Prop := ∀ o, o < n → w.cell? ⟨b, o, none⟩ = some (.int .i64 (g o))
theorem HoldsN.congr {w : World} {b n : Nat} {g g' : Nat → Int} (h : HoldsN w b n g) (e : ∀ o, o < n → g o = g' o) : HoldsN w b n g' := fun o ho => by rw [h o ho, e o ho]
theorem HoldsN.set {w : World} {b n : Nat} {g : Nat → Int} (h : HoldsN w b n g) (x : Nat) (v : Int) (hx : x < n) : HoldsN (w.setCell ⟨b, x, none⟩ (.int .i64 v)) b n (fun o => if o = x then v else g o) := fun o ho => by
  show _ = some (Value.int .i64 (if o = x then v else g o))
  by_cases e : o = x
  · subst e; rw [if_pos rfl]; exact World.cell?_setCell_same _ _ _ (h o hx)
  · rw [if_neg e, World.cell?_setCell_other _ _ _ _ (by intro c; exact e (congrArg Addr.off c).symm)]; exact h o ho
theorem HoldsN.far {w : World} {b c n : Nat} {g : Nat → Int} (h : HoldsN w b n g) (x : Nat) (v : Value) (hb : c ≠ b) : HoldsN (w.setCell ⟨c, x, none⟩ v) b n g := fun o ho => by
  rw [World.cell?_setCell_other _ _ _ _ (by intro e; exact hb (congrArg Addr.block e))]; exact h o ho
theorem HoldsN.on {w w' : World} {b n : Nat} {g : Nat → Int} (h : HoldsN w b n g) (hb : Below w.heap.size w w') (hl : b < w.heap.size) : HoldsN w' b n g := fun o ho => (hb.cell (p := ⟨b, o, none⟩) hl).trans (h o ho)
theorem all3 {p : Nat → Prop} (h0 : p 0) (h1 : p 1) (h2 : p 2) : ∀ o, o < 3 → p o
  | 0, _ => h0
  | 1, _ => h1
  | 2, _ => h2
  | n + 3, h => by omega
def fill3 (g : Nat → Int) (i o : Nat) : Int := if o < i then g o else 0
theorem fill3_next (g : Nat → Int) (i o : Nat) : (if o = i then g i else fill3 g i o) = fill3 g (i + 1) o := by
  unfold fill3
  by_cases e : o = i
  · subst e; rw [if_pos rfl, if_pos (by omega)]
  · rw [if_neg e]
    by_cases c : o < i
    · rw [if_pos c, if_pos (show o < i + 1 by omega)]
    · rw [if_neg c, if_neg (show ¬ o < i + 1 by omega)]
theorem fill3_next2 (g : Nat → Int) (i o : Nat) (v : Int) : (if o = i then g i else (if o = i then v else fill3 g i o)) = fill3 g (i + 1) o := by
  by_cases e : o = i
  · rw [if_pos e, ← fill3_next g i o, if_pos e]
  · rw [if_neg e, if_neg e, ← fill3_next g i o, if_neg e]
/-- A number of pulses, by the magnitude's value and whether the magnitude is the number itself. -/
def pg (m : Nat → Int) (bb : Nat → Bool) (i : Nat) : Int := if bb i then (m i + 128) / 256 else -((m i + 128) / 256)

set_option maxRecDepth 100000 in
set_option maxHeartbeats 8000000 in
theorem pulses_fn (f p c m : Nat → Int) (bb : Nat → Bool) (mb : ∀ i, i < 3 → 0 ≤ m i ∧ m i ≤ 268435455)
    (A0 : (∀ w, Calls Tryd.prog 36 #[(.agg #[.int .u16 (f 0), .int .u16 (f 1)])] w fun e w' => e = .returned (.agg #[.int .u16 (p 0), .int .u16 (p 1)]) ∧ Below w.heap.size w w'))
    (V0 : (∀ w, Calls Tryd.prog 37 #[(.agg #[.int .u16 (p 0), .int .u16 (p 1)])] w fun e w' => e = .returned (.int .i64 (m 0)) ∧ Below w.heap.size w w'))
    (C0 : (∀ w, Calls Tryd.prog 38 #[(.agg #[.int .u16 (f 0), .int .u16 (f 1)])] w fun e w' => e = .returned (.agg #[.int .u16 (c 0), .int .u16 (c 1)]) ∧ Below w.heap.size w w'))
    (E0 : (p 0 == c 0 && p 1 == c 1) = bb 0)
    (A1 : (∀ w, Calls Tryd.prog 36 #[(.agg #[.int .u16 (f 2), .int .u16 (f 3)])] w fun e w' => e = .returned (.agg #[.int .u16 (p 2), .int .u16 (p 3)]) ∧ Below w.heap.size w w'))
    (V1 : (∀ w, Calls Tryd.prog 37 #[(.agg #[.int .u16 (p 2), .int .u16 (p 3)])] w fun e w' => e = .returned (.int .i64 (m 1)) ∧ Below w.heap.size w w'))
    (C1 : (∀ w, Calls Tryd.prog 38 #[(.agg #[.int .u16 (f 2), .int .u16 (f 3)])] w fun e w' => e = .returned (.agg #[.int .u16 (c 2), .int .u16 (c 3)]) ∧ Below w.heap.size w w'))
    (E1 : (p 2 == c 2 && p 3 == c 3) = bb 1)
    (A2 : (∀ w, Calls Tryd.prog 36 #[(.agg #[.int .u16 (f 4), .int .u16 (f 5)])] w fun e w' => e = .returned (.agg #[.int .u16 (p 4), .int .u16 (p 5)]) ∧ Below w.heap.size w w'))
    (V2 : (∀ w, Calls Tryd.prog 37 #[(.agg #[.int .u16 (p 4), .int .u16 (p 5)])] w fun e w' => e = .returned (.int .i64 (m 2)) ∧ Below w.heap.size w w'))
    (C2 : (∀ w, Calls Tryd.prog 38 #[(.agg #[.int .u16 (f 4), .int .u16 (f 5)])] w fun e w' => e = .returned (.agg #[.int .u16 (c 4), .int .u16 (c 5)]) ∧ Below w.heap.size w w'))
    (E2 : (p 4 == c 4 && p 5 == c 5) = bb 2) (w : World) :
    Calls Tryd.prog 14 #[(.agg #[.int .u16 (f 0), .int .u16 (f 1), .int .u16 (f 2), .int .u16 (f 3), .int .u16 (f 4), .int .u16 (f 5)])] w fun e w' => e = .returned (.agg #[.int .i64 (pg m bb 0), .int .i64 (pg m bb 1), .int .i64 (pg m bb 2)]) ∧ Below w.heap.size w w' := by
  have heq := @eq_dbl
  have MB := keep mb
  clear mb
  have F0 := keep E0
  clear E0
  have F1 := keep E1
  clear E1
  have F2 := keep E2
  clear E2
  go_enter Tryd.func14, Tryd.ntmps14
  go_wp2_with fail
  refine wp_gen (fun W => Below w.heap.size w W ∧ w.heap.size + 1 + 1 + 1 ≤ W.heap.size ∧ Holds W w.heap.size 6 f ∧ (HoldsN W (w.heap.size + 1) 3 (fun _ => 0) ∧ Loose W (w.heap.size + 1)) ∧ HoldsN W (w.heap.size + 1 + 1) 3 (fill3 (pg m bb) 0) ∧ Loose W (w.heap.size + 1 + 1)) ⟨(by repeat' (first | (with_reducible exact Below.refl _ _) | (with_reducible refine bl_set ?_ _ ?_) | (with_reducible refine bl_alloc ?_ _) | (with_reducible refine bl_drew ?_) | (with_reducible refine bl_via (by with_reducible assumption) ?_) | (with_reducible assumption) | omega | (simp only []; omega) | (simp; omega))), by simp, ?_, ⟨?_, ?_⟩, ?_, ?_⟩ ?_
  · apply all6 <;> go_simp
  · apply all3 <;> go_simp
  · intro o; go_simp
  · apply all3 <;> (show _ = some (Value.int .i64 0); go_simp)
  · intro o; go_simp
  rintro W0 ⟨hb0, hs0, hm0, ht0, ha0, hl0⟩
  go_loopw [6] (fun v W => ∃ i : Nat, i ≤ 3 ∧ v = .int .i64 i ∧ Below w.heap.size w W ∧ w.heap.size + 1 + 1 + 1 ≤ W.heap.size ∧ Holds W w.heap.size 6 f ∧ (HoldsN W (w.heap.size + 1) 3 (fun _ => 0) ∧ Loose W (w.heap.size + 1)) ∧ HoldsN W (w.heap.size + 1 + 1) 3 (fill3 (pg m bb) i) ∧ Loose W (w.heap.size + 1 + 1)) (fun v _ => (3 - intOf v).toNat)
  case atStart => exact ⟨0, by omega, rfl, hb0, hs0, hm0, ht0, ha0, hl0⟩
  case round =>
    clear hb0 hs0 hm0 ht0 ha0 hl0
    obtain ⟨i, hI, rfl, hb1, hs1, hm1, ⟨ht1, hu1⟩, ha1, hl1⟩ := hrel
    by_cases hlt : i < 3
    · rcases (show i = 0 ∨ i = 1 ∨ i = 2 by omega) with rfl | rfl | rfl
      · have ecast : ((0 : Nat) : Int) = 0 := rfl
        simp only [ecast]
        clear ecast
        obtain ⟨m0, m1⟩ := MB.out 0 (by omega)
        have xa := hm1 0 (by omega)
        have xb := hm1 1 (by omega)
        have z1 : w.heap.size < wr.heap.size := by omega
        cases hbb : bb 0
        all_goals
          have e0 := F0.out
          rw [hbb] at e0
          go_wp2_with fail
          refine (A0 _).mono ?_
          rintro _ r2 ⟨rfl, hbr2⟩
          obtain ⟨hcr2, hfr2⟩ := bcell hbr2
          have hzr2 := hbr2.size
          try simp only [World.size_alloc, World.size_setCell, World.size_drew] at hzr2
          have hm2 := (hm1).on hbr2 (by (try simp only [World.size_setCell, World.size_alloc]); omega)
          have ht2 := (ht1).on hbr2 (by (try simp only [World.size_setCell, World.size_alloc]); omega)
          have hu2 := (hu1).on hbr2 (by (try simp only [World.size_setCell, World.size_alloc]); omega)
          have ha2 := (ha1).on hbr2 (by (try simp only [World.size_setCell, World.size_alloc]); omega)
          have hl2 := (hl1).on hbr2 (by (try simp only [World.size_setCell, World.size_alloc]); omega)
          have hb2 := bl_via hbr2 hb1
          clear hm1 ht1 hu1 ha1 hl1 hb1 hcr2 hfr2 xa xb hbr2
          go_wp2_with fail
          refine (V0 _).mono ?_
          rintro _ r3 ⟨rfl, hbr3⟩
          obtain ⟨hcr3, hfr3⟩ := bcell hbr3
          have hzr3 := hbr3.size
          try simp only [World.size_alloc, World.size_setCell, World.size_drew] at hzr3
          have hlr3r20 : r2.heap.size < r3.heap.size := by omega
          have hm3 := (hm2.on (bl_alloc (Below.refl _ _) (.cells #[.int .u16 (p 0), .int .u16 (p 1)] 25)) (by omega)).on hbr3 (by (try simp only [World.size_setCell, World.size_alloc]); omega)
          have ht3 := (ht2.on (bl_alloc (Below.refl _ _) (.cells #[.int .u16 (p 0), .int .u16 (p 1)] 25)) (by omega)).on hbr3 (by (try simp only [World.size_setCell, World.size_alloc]); omega)
          have hu3 := (hu2.on (bl_alloc (Below.refl _ _) (.cells #[.int .u16 (p 0), .int .u16 (p 1)] 25)) (by omega)).on hbr3 (by (try simp only [World.size_setCell, World.size_alloc]); omega)
          have ha3 := (ha2.on (bl_alloc (Below.refl _ _) (.cells #[.int .u16 (p 0), .int .u16 (p 1)] 25)) (by omega)).on hbr3 (by (try simp only [World.size_setCell, World.size_alloc]); omega)
          have hl3 := (hl2.on (bl_alloc (Below.refl _ _) (.cells #[.int .u16 (p 0), .int .u16 (p 1)] 25)) (by omega)).on hbr3 (by (try simp only [World.size_setCell, World.size_alloc]); omega)
          have d0 : r3.cell? ⟨r2.heap.size, 0, none⟩ = some (.int .u16 (p 0)) := (hcr3 _ _ (by simp only [World.size_alloc]; omega)).trans (by go_simp)
          have d1 : r3.cell? ⟨r2.heap.size, 1, none⟩ = some (.int .u16 (p 1)) := (hcr3 _ _ (by simp only [World.size_alloc]; omega)).trans (by go_simp)
          have hb3 := bl_via hbr3 (bl_alloc hb2 _)
          clear hm2 ht2 hu2 ha2 hl2 hb2 hcr3 hfr3 hbr3
          have ya := ha3 0 (by omega)
          have yb := hl3 0
          have xa := hm3 0 (by omega)
          have xb := hm3 1 (by omega)
          have z3 : w.heap.size < r3.heap.size := by omega
          have z4 : w.heap.size + 1 + 1 < r3.heap.size := by omega
          go_wp2_with fail
          have hecr4 := @Ext.cell
          refine wp_region_ext (by kernel_rfl) (by kernel_rfl) ?_
          repeat (first | go_big_quiet_skip | (go_big_quiet_want; go_big_quiet_op; first | go_big_quiet_on | (go_big_quiet_call ((first | fail | (go_at_call 38; with_reducible exact ext_call (C0 _)))))))
          clear hecr4
          refine wpQuiet_nil ?_
          rintro r4 ⟨⟨_, hbr4⟩, rfl⟩
          obtain ⟨hcr4, hfr4⟩ := bcell hbr4
          have hzr4 := hbr4.size
          try simp only [World.size_alloc, World.size_setCell, World.size_drew] at hzr4
          have hm4 := (hm3.far _ _ (by omega)).on hbr4 (by (try simp only [World.size_setCell, World.size_alloc]); omega)
          have ht4 := (ht3.far _ _ (by omega)).on hbr4 (by (try simp only [World.size_setCell, World.size_alloc]); omega)
          have hu4 := (hu3.set _ _).on hbr4 (by (try simp only [World.size_setCell, World.size_alloc]); omega)
          have ha4 := (ha3.set _ _ (by omega)).on hbr4 (by (try simp only [World.size_setCell, World.size_alloc]); omega)
          have hl4 := (hl3.set _ _).on hbr4 (by (try simp only [World.size_setCell, World.size_alloc]); omega)
          have hb4 : Below w.heap.size w r4 := bl_via hbr4 (bl_set hb3 _ (by show w.heap.size ≤ w.heap.size + 1 + 1; omega))
          clear hm3 ht3 hu3 ha3 hl3 hb3 hcr4 hfr4 hbr4 ya yb xa xb d0 d1 z3 z4
          have ya := ha4 0 (by omega)
          have yb := hl4 0
          simp only [if_true] at ya
          go_wp2_with fail
          go_roundw
          case rel =>
            first
            | exact ⟨1, by omega, by go_num, hb4, by omega, hm4, ⟨ht4, hu4⟩, HoldsN.congr ha4 (fun o _ => by rw [← fill3_next (pg m bb) 0 o, show pg m bb 0 = (m 0 + 128) / 256 from by unfold pg; rw [hbb]; rfl]), hl4⟩
            | exact ⟨1, by omega, by go_num, bl_set hb4 _ (by show w.heap.size ≤ w.heap.size + 1 + 1; omega), by simp only [World.size_setCell]; omega, hm4.far _ _ (by omega), ⟨ht4.far _ _ (by omega), hu4.set _ _⟩, HoldsN.congr (ha4.set _ _ (by omega)) (fun o _ => by rw [← fill3_next2 (pg m bb) 0 o ((m 0 + 128) / 256), show pg m bb 0 = -((m 0 + 128) / 256) from by unfold pg; rw [hbb]; rfl]), hl4.set _ _⟩
          case measure => simp [intOf]
      · have ecast : ((1 : Nat) : Int) = 1 := rfl
        simp only [ecast]
        clear ecast
        obtain ⟨m0, m1⟩ := MB.out 1 (by omega)
        have xa := hm1 2 (by omega)
        have xb := hm1 3 (by omega)
        have z1 : w.heap.size < wr.heap.size := by omega
        cases hbb : bb 1
        all_goals
          have e0 := F1.out
          rw [hbb] at e0
          go_wp2_with fail
          refine (A1 _).mono ?_
          rintro _ r2 ⟨rfl, hbr2⟩
          obtain ⟨hcr2, hfr2⟩ := bcell hbr2
          have hzr2 := hbr2.size
          try simp only [World.size_alloc, World.size_setCell, World.size_drew] at hzr2
          have hm2 := (hm1).on hbr2 (by (try simp only [World.size_setCell, World.size_alloc]); omega)
          have ht2 := (ht1).on hbr2 (by (try simp only [World.size_setCell, World.size_alloc]); omega)
          have hu2 := (hu1).on hbr2 (by (try simp only [World.size_setCell, World.size_alloc]); omega)
          have ha2 := (ha1).on hbr2 (by (try simp only [World.size_setCell, World.size_alloc]); omega)
          have hl2 := (hl1).on hbr2 (by (try simp only [World.size_setCell, World.size_alloc]); omega)
          have hb2 := bl_via hbr2 hb1
          clear hm1 ht1 hu1 ha1 hl1 hb1 hcr2 hfr2 xa xb hbr2
          go_wp2_with fail
          refine (V1 _).mono ?_
          rintro _ r3 ⟨rfl, hbr3⟩
          obtain ⟨hcr3, hfr3⟩ := bcell hbr3
          have hzr3 := hbr3.size
          try simp only [World.size_alloc, World.size_setCell, World.size_drew] at hzr3
          have hlr3r20 : r2.heap.size < r3.heap.size := by omega
          have hm3 := (hm2.on (bl_alloc (Below.refl _ _) (.cells #[.int .u16 (p 2), .int .u16 (p 3)] 25)) (by omega)).on hbr3 (by (try simp only [World.size_setCell, World.size_alloc]); omega)
          have ht3 := (ht2.on (bl_alloc (Below.refl _ _) (.cells #[.int .u16 (p 2), .int .u16 (p 3)] 25)) (by omega)).on hbr3 (by (try simp only [World.size_setCell, World.size_alloc]); omega)
          have hu3 := (hu2.on (bl_alloc (Below.refl _ _) (.cells #[.int .u16 (p 2), .int .u16 (p 3)] 25)) (by omega)).on hbr3 (by (try simp only [World.size_setCell, World.size_alloc]); omega)
          have ha3 := (ha2.on (bl_alloc (Below.refl _ _) (.cells #[.int .u16 (p 2), .int .u16 (p 3)] 25)) (by omega)).on hbr3 (by (try simp only [World.size_setCell, World.size_alloc]); omega)
          have hl3 := (hl2.on (bl_alloc (Below.refl _ _) (.cells #[.int .u16 (p 2), .int .u16 (p 3)] 25)) (by omega)).on hbr3 (by (try simp only [World.size_setCell, World.size_alloc]); omega)
          have d0 : r3.cell? ⟨r2.heap.size, 0, none⟩ = some (.int .u16 (p 2)) := (hcr3 _ _ (by simp only [World.size_alloc]; omega)).trans (by go_simp)
          have d1 : r3.cell? ⟨r2.heap.size, 1, none⟩ = some (.int .u16 (p 3)) := (hcr3 _ _ (by simp only [World.size_alloc]; omega)).trans (by go_simp)
          have hb3 := bl_via hbr3 (bl_alloc hb2 _)
          clear hm2 ht2 hu2 ha2 hl2 hb2 hcr3 hfr3 hbr3
          have ya := ha3 1 (by omega)
          have yb := hl3 1
          have xa := hm3 2 (by omega)
          have xb := hm3 3 (by omega)
          have z3 : w.heap.size < r3.heap.size := by omega
          have z4 : w.heap.size + 1 + 1 < r3.heap.size := by omega
          go_wp2_with fail
          have hecr4 := @Ext.cell
          refine wp_region_ext (by kernel_rfl) (by kernel_rfl) ?_
          repeat (first | go_big_quiet_skip | (go_big_quiet_want; go_big_quiet_op; first | go_big_quiet_on | (go_big_quiet_call ((first | fail | (go_at_call 38; with_reducible exact ext_call (C1 _)))))))
          clear hecr4
          refine wpQuiet_nil ?_
          rintro r4 ⟨⟨_, hbr4⟩, rfl⟩
          obtain ⟨hcr4, hfr4⟩ := bcell hbr4
          have hzr4 := hbr4.size
          try simp only [World.size_alloc, World.size_setCell, World.size_drew] at hzr4
          have hm4 := (hm3.far _ _ (by omega)).on hbr4 (by (try simp only [World.size_setCell, World.size_alloc]); omega)
          have ht4 := (ht3.far _ _ (by omega)).on hbr4 (by (try simp only [World.size_setCell, World.size_alloc]); omega)
          have hu4 := (hu3.set _ _).on hbr4 (by (try simp only [World.size_setCell, World.size_alloc]); omega)
          have ha4 := (ha3.set _ _ (by omega)).on hbr4 (by (try simp only [World.size_setCell, World.size_alloc]); omega)
          have hl4 := (hl3.set _ _).on hbr4 (by (try simp only [World.size_setCell, World.size_alloc]); omega)
          have hb4 : Below w.heap.size w r4 := bl_via hbr4 (bl_set hb3 _ (by show w.heap.size ≤ w.heap.size + 1 + 1; omega))
          clear hm3 ht3 hu3 ha3 hl3 hb3 hcr4 hfr4 hbr4 ya yb xa xb d0 d1 z3 z4
          have ya := ha4 1 (by omega)
          have yb := hl4 1
          simp only [if_true] at ya
          go_wp2_with fail
          go_roundw
          case rel =>
            first
            | exact ⟨2, by omega, by go_num, hb4, by omega, hm4, ⟨ht4, hu4⟩, HoldsN.congr ha4 (fun o _ => by rw [← fill3_next (pg m bb) 1 o, show pg m bb 1 = (m 1 + 128) / 256 from by unfold pg; rw [hbb]; rfl]), hl4⟩
            | exact ⟨2, by omega, by go_num, bl_set hb4 _ (by show w.heap.size ≤ w.heap.size + 1 + 1; omega), by simp only [World.size_setCell]; omega, hm4.far _ _ (by omega), ⟨ht4.far _ _ (by omega), hu4.set _ _⟩, HoldsN.congr (ha4.set _ _ (by omega)) (fun o _ => by rw [← fill3_next2 (pg m bb) 1 o ((m 1 + 128) / 256), show pg m bb 1 = -((m 1 + 128) / 256) from by unfold pg; rw [hbb]; rfl]), hl4.set _ _⟩
          case measure => simp [intOf]
      · have ecast : ((2 : Nat) : Int) = 2 := rfl
        simp only [ecast]
        clear ecast
        obtain ⟨m0, m1⟩ := MB.out 2 (by omega)
        have xa := hm1 4 (by omega)
        have xb := hm1 5 (by omega)
        have z1 : w.heap.size < wr.heap.size := by omega
        cases hbb : bb 2
        all_goals
          have e0 := F2.out
          rw [hbb] at e0
          go_wp2_with fail
          refine (A2 _).mono ?_
          rintro _ r2 ⟨rfl, hbr2⟩
          obtain ⟨hcr2, hfr2⟩ := bcell hbr2
          have hzr2 := hbr2.size
          try simp only [World.size_alloc, World.size_setCell, World.size_drew] at hzr2
          have hm2 := (hm1).on hbr2 (by (try simp only [World.size_setCell, World.size_alloc]); omega)
          have ht2 := (ht1).on hbr2 (by (try simp only [World.size_setCell, World.size_alloc]); omega)
          have hu2 := (hu1).on hbr2 (by (try simp only [World.size_setCell, World.size_alloc]); omega)
          have ha2 := (ha1).on hbr2 (by (try simp only [World.size_setCell, World.size_alloc]); omega)
          have hl2 := (hl1).on hbr2 (by (try simp only [World.size_setCell, World.size_alloc]); omega)
          have hb2 := bl_via hbr2 hb1
          clear hm1 ht1 hu1 ha1 hl1 hb1 hcr2 hfr2 xa xb hbr2
          go_wp2_with fail
          refine (V2 _).mono ?_
          rintro _ r3 ⟨rfl, hbr3⟩
          obtain ⟨hcr3, hfr3⟩ := bcell hbr3
          have hzr3 := hbr3.size
          try simp only [World.size_alloc, World.size_setCell, World.size_drew] at hzr3
          have hlr3r20 : r2.heap.size < r3.heap.size := by omega
          have hm3 := (hm2.on (bl_alloc (Below.refl _ _) (.cells #[.int .u16 (p 4), .int .u16 (p 5)] 25)) (by omega)).on hbr3 (by (try simp only [World.size_setCell, World.size_alloc]); omega)
          have ht3 := (ht2.on (bl_alloc (Below.refl _ _) (.cells #[.int .u16 (p 4), .int .u16 (p 5)] 25)) (by omega)).on hbr3 (by (try simp only [World.size_setCell, World.size_alloc]); omega)
          have hu3 := (hu2.on (bl_alloc (Below.refl _ _) (.cells #[.int .u16 (p 4), .int .u16 (p 5)] 25)) (by omega)).on hbr3 (by (try simp only [World.size_setCell, World.size_alloc]); omega)
          have ha3 := (ha2.on (bl_alloc (Below.refl _ _) (.cells #[.int .u16 (p 4), .int .u16 (p 5)] 25)) (by omega)).on hbr3 (by (try simp only [World.size_setCell, World.size_alloc]); omega)
          have hl3 := (hl2.on (bl_alloc (Below.refl _ _) (.cells #[.int .u16 (p 4), .int .u16 (p 5)] 25)) (by omega)).on hbr3 (by (try simp only [World.size_setCell, World.size_alloc]); omega)
          have d0 : r3.cell? ⟨r2.heap.size, 0, none⟩ = some (.int .u16 (p 4)) := (hcr3 _ _ (by simp only [World.size_alloc]; omega)).trans (by go_simp)
          have d1 : r3.cell? ⟨r2.heap.size, 1, none⟩ = some (.int .u16 (p 5)) := (hcr3 _ _ (by simp only [World.size_alloc]; omega)).trans (by go_simp)
          have hb3 := bl_via hbr3 (bl_alloc hb2 _)
          clear hm2 ht2 hu2 ha2 hl2 hb2 hcr3 hfr3 hbr3
          have ya := ha3 2 (by omega)
          have yb := hl3 2
          have xa := hm3 4 (by omega)
          have xb := hm3 5 (by omega)
          have z3 : w.heap.size < r3.heap.size := by omega
          have z4 : w.heap.size + 1 + 1 < r3.heap.size := by omega
          go_wp2_with fail
          have hecr4 := @Ext.cell
          refine wp_region_ext (by kernel_rfl) (by kernel_rfl) ?_
          repeat (first | go_big_quiet_skip | (go_big_quiet_want; go_big_quiet_op; first | go_big_quiet_on | (go_big_quiet_call ((first | fail | (go_at_call 38; with_reducible exact ext_call (C2 _)))))))
          clear hecr4
          refine wpQuiet_nil ?_
          rintro r4 ⟨⟨_, hbr4⟩, rfl⟩
          obtain ⟨hcr4, hfr4⟩ := bcell hbr4
          have hzr4 := hbr4.size
          try simp only [World.size_alloc, World.size_setCell, World.size_drew] at hzr4
          have hm4 := (hm3.far _ _ (by omega)).on hbr4 (by (try simp only [World.size_setCell, World.size_alloc]); omega)
          have ht4 := (ht3.far _ _ (by omega)).on hbr4 (by (try simp only [World.size_setCell, World.size_alloc]); omega)
          have hu4 := (hu3.set _ _).on hbr4 (by (try simp only [World.size_setCell, World.size_alloc]); omega)
          have ha4 := (ha3.set _ _ (by omega)).on hbr4 (by (try simp only [World.size_setCell, World.size_alloc]); omega)
          have hl4 := (hl3.set _ _).on hbr4 (by (try simp only [World.size_setCell, World.size_alloc]); omega)
          have hb4 : Below w.heap.size w r4 := bl_via hbr4 (bl_set hb3 _ (by show w.heap.size ≤ w.heap.size + 1 + 1; omega))
          clear hm3 ht3 hu3 ha3 hl3 hb3 hcr4 hfr4 hbr4 ya yb xa xb d0 d1 z3 z4
          have ya := ha4 2 (by omega)
          have yb := hl4 2
          simp only [if_true] at ya
          go_wp2_with fail
          go_roundw
          case rel =>
            first
            | exact ⟨3, by omega, by go_num, hb4, by omega, hm4, ⟨ht4, hu4⟩, HoldsN.congr ha4 (fun o _ => by rw [← fill3_next (pg m bb) 2 o, show pg m bb 2 = (m 2 + 128) / 256 from by unfold pg; rw [hbb]; rfl]), hl4⟩
            | exact ⟨3, by omega, by go_num, bl_set hb4 _ (by show w.heap.size ≤ w.heap.size + 1 + 1; omega), by simp only [World.size_setCell]; omega, hm4.far _ _ (by omega), ⟨ht4.far _ _ (by omega), hu4.set _ _⟩, HoldsN.congr (ha4.set _ _ (by omega)) (fun o _ => by rw [← fill3_next2 (pg m bb) 2 o ((m 2 + 128) / 256), show pg m bb 2 = -((m 2 + 128) / 256) from by unfold pg; rw [hbb]; rfl]), hl4.set _ _⟩
          case measure => simp [intOf]
    · obtain rfl : i = 3 := by omega
      have ha2 := ha1.congr (g' := pg m bb) (fun o ho => by unfold fill3; rw [if_pos (by omega)])
      have y0 := ha2 0 (by omega)
      have t0 := ht1 0 (by omega)
      have u0 := hu1 0
      have y1 := ha2 1 (by omega)
      have t1 := ht1 1 (by omega)
      have u1 := hu1 1
      have y2 := ha2 2 (by omega)
      have t2 := ht1 2 (by omega)
      have u2 := hu1 2
      clear ha1 ha2 hl1 ht1 hu1 hm1
      go_wp2
      refine bodyPost_ret (v := (.agg #[.int .i64 (pg m bb 0), .int .i64 (pg m bb 1), .int .i64 (pg m bb 2)])) (by simp [results, Tryd.results14, go_sem, *]) rfl ⟨rfl, ?_⟩; exact (by repeat' (first | (with_reducible exact Below.refl _ _) | (with_reducible refine bl_set ?_ _ ?_) | (with_reducible refine bl_alloc ?_ _) | (with_reducible refine bl_drew ?_) | (with_reducible refine bl_via (by with_reducible assumption) ?_) | (with_reducible assumption) | omega | (simp only []; omega) | (simp; omega)))
set_option maxRecDepth 100000 in
set_option maxHeartbeats 8000000 in
theorem rpulses_fn (f v g : Nat → Int)
    (C1 : (∀ w, Calls Tryd.prog 30 #[(.agg #[.int .u16 (f 0), .int .u16 (f 1), .int .u16 (f 2), .int .u16 (f 3), .int .u16 (f 4), .int .u16 (f 5)])] w fun e w' => e = .returned (.agg #[.int .i64 (v 0), .int .i64 (v 1), .int .i64 (v 2)]) ∧ Below w.heap.size w w'))
    (R0 : (∀ w, Calls Tryd.prog 39 #[.int .i64 (v 0), .int .i64 256] w fun e w' => e = .returned (.int .i64 (g 0)) ∧ Below w.heap.size w w'))
    (R1 : (∀ w, Calls Tryd.prog 39 #[.int .i64 (v 1), .int .i64 256] w fun e w' => e = .returned (.int .i64 (g 1)) ∧ Below w.heap.size w w'))
    (R2 : (∀ w, Calls Tryd.prog 39 #[.int .i64 (v 2), .int .i64 256] w fun e w' => e = .returned (.int .i64 (g 2)) ∧ Below w.heap.size w w')) (w : World) :
    Calls Tryd.prog 15 #[(.agg #[.int .u16 (f 0), .int .u16 (f 1), .int .u16 (f 2), .int .u16 (f 3), .int .u16 (f 4), .int .u16 (f 5)])] w fun e w' => e = .returned (.agg #[.int .i64 (g 0), .int .i64 (g 1), .int .i64 (g 2)]) ∧ Below w.heap.size w w' := by
  go_enter Tryd.func15, Tryd.ntmps15
  go_wp2_with fail
  refine (C1 _).mono ?_
  rintro _ r1 ⟨rfl, hbr1⟩
  obtain ⟨hcr1, hfr1⟩ := bcell hbr1
  have hzr1 := hbr1.size
  try simp only [World.size_alloc, World.size_setCell, World.size_drew] at hzr1
  have hlr1w0 : w.heap.size < r1.heap.size := by omega
  have hlr1w1 : w.heap.size + 1 < r1.heap.size := by omega
  go_wp2_with fail
  refine wp_gen (fun W => Below w.heap.size w W ∧ r1.heap.size + 1 + 1 ≤ W.heap.size ∧ (HoldsN W (w.heap.size + 1) 3 (fun _ => 0) ∧ Loose W (w.heap.size + 1)) ∧ HoldsN W r1.heap.size 3 v ∧ HoldsN W (r1.heap.size + 1) 3 (fill3 g 0) ∧ Loose W (r1.heap.size + 1)) ⟨(by repeat' (first | (with_reducible exact Below.refl _ _) | (with_reducible refine bl_set ?_ _ ?_) | (with_reducible refine bl_alloc ?_ _) | (with_reducible refine bl_drew ?_) | (with_reducible refine bl_via (by with_reducible assumption) ?_) | (with_reducible assumption) | omega | (simp only []; omega) | (simp; omega))), by simp, ⟨?_, ?_⟩, ?_, ?_, ?_⟩ ?_
  · apply all3 <;> (show _ = some (Value.int .i64 0); go_simp)
  · intro o; go_simp
  · apply all3 <;> go_simp
  · apply all3 <;> (show _ = some (Value.int .i64 0); go_simp)
  · intro o; go_simp
  clear hcr1 hfr1 hbr1
  rintro W0 ⟨hb0, hs0, ht0, hv0, ha0, hl0⟩
  go_loopw [5] (fun x W => ∃ i : Nat, i ≤ 3 ∧ x = .int .i64 i ∧ Below w.heap.size w W ∧ r1.heap.size + 1 + 1 ≤ W.heap.size ∧ (HoldsN W (w.heap.size + 1) 3 (fun _ => 0) ∧ Loose W (w.heap.size + 1)) ∧ HoldsN W r1.heap.size 3 v ∧ HoldsN W (r1.heap.size + 1) 3 (fill3 g i) ∧ Loose W (r1.heap.size + 1)) (fun x _ => (3 - intOf x).toNat)
  case atStart => exact ⟨0, by omega, rfl, hb0, hs0, ht0, hv0, ha0, hl0⟩
  case round =>
    clear hb0 hs0 ht0 hv0 ha0 hl0
    obtain ⟨i, hI, rfl, hb1, hs1, ⟨ht1, hu1⟩, hv1, ha1, hl1⟩ := hrel
    by_cases hlt : i < 3
    · rcases (show i = 0 ∨ i = 1 ∨ i = 2 by omega) with rfl | rfl | rfl
      · have ecast : ((0 : Nat) : Int) = 0 := rfl
        simp only [ecast]
        clear ecast
        have xa := hv1 0 (by omega)
        have z1 : r1.heap.size < wr.heap.size := by omega
        go_wp2_with fail
        refine (R0 _).mono ?_
        rintro _ r2 ⟨rfl, hbr2⟩
        obtain ⟨hcr2, hfr2⟩ := bcell hbr2
        have hzr2 := hbr2.size
        try simp only [World.size_alloc, World.size_setCell, World.size_drew] at hzr2
        have ht2 := ht1.on hbr2 (by omega)
        have hu2 := hu1.on hbr2 (by omega)
        have hv2 := hv1.on hbr2 (by omega)
        have ha2 := ha1.on hbr2 (by omega)
        have hl2 := hl1.on hbr2 (by omega)
        have hb2 := bl_via hbr2 hb1
        clear ht1 hu1 hv1 ha1 hl1 hb1 hcr2 hfr2 hbr2 xa
        have ya := ha2 0 (by omega)
        have yb := hl2 0
        go_wp2_with fail
        go_roundw
        case rel =>
          exact ⟨1, by omega, by go_num, bl_set hb2 _ (by show w.heap.size ≤ r1.heap.size + 1; omega), by simp only [World.size_setCell]; omega, ⟨ht2.far _ _ (by omega), hu2.set _ _⟩, hv2.far _ _ (by omega), HoldsN.congr (ha2.set _ _ (by omega)) (fun o _ => fill3_next g 0 o), hl2.set _ _⟩
        case measure => simp [intOf]
      · have ecast : ((1 : Nat) : Int) = 1 := rfl
        simp only [ecast]
        clear ecast
        have xa := hv1 1 (by omega)
        have z1 : r1.heap.size < wr.heap.size := by omega
        go_wp2_with fail
        refine (R1 _).mono ?_
        rintro _ r2 ⟨rfl, hbr2⟩
        obtain ⟨hcr2, hfr2⟩ := bcell hbr2
        have hzr2 := hbr2.size
        try simp only [World.size_alloc, World.size_setCell, World.size_drew] at hzr2
        have ht2 := ht1.on hbr2 (by omega)
        have hu2 := hu1.on hbr2 (by omega)
        have hv2 := hv1.on hbr2 (by omega)
        have ha2 := ha1.on hbr2 (by omega)
        have hl2 := hl1.on hbr2 (by omega)
        have hb2 := bl_via hbr2 hb1
        clear ht1 hu1 hv1 ha1 hl1 hb1 hcr2 hfr2 hbr2 xa
        have ya := ha2 1 (by omega)
        have yb := hl2 1
        go_wp2_with fail
        go_roundw
        case rel =>
          exact ⟨2, by omega, by go_num, bl_set hb2 _ (by show w.heap.size ≤ r1.heap.size + 1; omega), by simp only [World.size_setCell]; omega, ⟨ht2.far _ _ (by omega), hu2.set _ _⟩, hv2.far _ _ (by omega), HoldsN.congr (ha2.set _ _ (by omega)) (fun o _ => fill3_next g 1 o), hl2.set _ _⟩
        case measure => simp [intOf]
      · have ecast : ((2 : Nat) : Int) = 2 := rfl
        simp only [ecast]
        clear ecast
        have xa := hv1 2 (by omega)
        have z1 : r1.heap.size < wr.heap.size := by omega
        go_wp2_with fail
        refine (R2 _).mono ?_
        rintro _ r2 ⟨rfl, hbr2⟩
        obtain ⟨hcr2, hfr2⟩ := bcell hbr2
        have hzr2 := hbr2.size
        try simp only [World.size_alloc, World.size_setCell, World.size_drew] at hzr2
        have ht2 := ht1.on hbr2 (by omega)
        have hu2 := hu1.on hbr2 (by omega)
        have hv2 := hv1.on hbr2 (by omega)
        have ha2 := ha1.on hbr2 (by omega)
        have hl2 := hl1.on hbr2 (by omega)
        have hb2 := bl_via hbr2 hb1
        clear ht1 hu1 hv1 ha1 hl1 hb1 hcr2 hfr2 hbr2 xa
        have ya := ha2 2 (by omega)
        have yb := hl2 2
        go_wp2_with fail
        go_roundw
        case rel =>
          exact ⟨3, by omega, by go_num, bl_set hb2 _ (by show w.heap.size ≤ r1.heap.size + 1; omega), by simp only [World.size_setCell]; omega, ⟨ht2.far _ _ (by omega), hu2.set _ _⟩, hv2.far _ _ (by omega), HoldsN.congr (ha2.set _ _ (by omega)) (fun o _ => fill3_next g 2 o), hl2.set _ _⟩
        case measure => simp [intOf]
    · obtain rfl : i = 3 := by omega
      have ha2 := ha1.congr (g' := g) (fun o ho => by unfold fill3; rw [if_pos (by omega)])
      have y0 := ha2 0 (by omega)
      have t0 := ht1 0 (by omega)
      have u0 := hu1 0
      have y1 := ha2 1 (by omega)
      have t1 := ht1 1 (by omega)
      have u1 := hu1 1
      have y2 := ha2 2 (by omega)
      have t2 := ht1 2 (by omega)
      have u2 := hu1 2
      clear ha1 ha2 hl1 ht1 hu1 hv1
      go_wp2
      refine bodyPost_ret (v := (.agg #[.int .i64 (g 0), .int .i64 (g 1), .int .i64 (g 2)])) (by simp [results, Tryd.results15, go_sem, *]) rfl ⟨rfl, ?_⟩; exact (by repeat' (first | (with_reducible exact Below.refl _ _) | (with_reducible refine bl_set ?_ _ ?_) | (with_reducible refine bl_alloc ?_ _) | (with_reducible refine bl_drew ?_) | (with_reducible refine bl_via (by with_reducible assumption) ?_) | (with_reducible assumption) | omega | (simp only []; omega) | (simp; omega)))
end Go.Proofs.YtbbhppjamighdaaDoor
