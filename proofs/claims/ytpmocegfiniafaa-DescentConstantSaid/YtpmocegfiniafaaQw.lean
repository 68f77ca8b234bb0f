/- The law DescentConstant: for every input it returns true. Printed by gen_qw.py. -/
import Derived.Test.YtpmocegfiniafaaQs
import Derived.Test.YtpmocegfiniafaaQu
import Derived.Test.YtpmocegfiniafaaKf
namespace Go.Proofs.Ytpmocegfiniafaa
set_option linter.unusedSimpArgs false
set_option linter.unusedVariables false
open Go.RowKit

/-- The first n cells of block b hold the 16-bit numbers of g. -/
def HoldsI (w : World) (b n : Nat) (g : Nat → Int) : Prop := ∀ o, o < n → w.cell? ⟨b, o, none⟩ = some (.int .i16 (g o))
theorem HoldsI.far {w : World} {b c n : Nat} {g : Nat → Int} (h : HoldsI w b n g) (x : Nat) (v : Value) (hb : c ≠ b) : HoldsI (w.setCell ⟨c, x, none⟩ v) b n g := fun o ho => by
  rw [World.cell?_setCell_other _ _ _ _ (by intro e; exact hb (congrArg Addr.block e))]; exact h o ho
theorem HoldsI.on {w w' : World} {b n : Nat} {g : Nat → Int} (h : HoldsI w b n g) (hb : Below w.heap.size w w') (hl : b < w.heap.size) : HoldsI w' b n g := fun o ho => (hb.cell (p := ⟨b, o, none⟩) hl).trans (h o ho)
theorem all3 {p : Nat → Prop} (h0 : p 0) (h1 : p 1) (h2 : p 2) : ∀ o, o < 3 → p o
  | 0, _ => h0
  | 1, _ => h1
  | 2, _ => h2
  | n + 3, h => by omega
theorem all12 {p : Nat → Prop} (h0 : p 0) (h1 : p 1) (h2 : p 2) (h3 : p 3) (h4 : p 4) (h5 : p 5) (h6 : p 6) (h7 : p 7) (h8 : p 8) (h9 : p 9) (h10 : p 10) (h11 : p 11) : ∀ o, o < 12 → p o
  | 0, _ => h0
  | 1, _ => h1
  | 2, _ => h2
  | 3, _ => h3
  | 4, _ => h4
  | 5, _ => h5
  | 6, _ => h6
  | 7, _ => h7
  | 8, _ => h8
  | 9, _ => h9
  | 10, _ => h10
  | 11, _ => h11
  | n + 12, h => by omega
theorem all14 {p : Nat → Prop} (h0 : p 0) (h1 : p 1) (h2 : p 2) (h3 : p 3) (h4 : p 4) (h5 : p 5) (h6 : p 6) (h7 : p 7) (h8 : p 8) (h9 : p 9) (h10 : p 10) (h11 : p 11) (h12 : p 12) (h13 : p 13) : ∀ o, o < 14 → p o
  | 0, _ => h0
  | 1, _ => h1
  | 2, _ => h2
  | 3, _ => h3
  | 4, _ => h4
  | 5, _ => h5
  | 6, _ => h6
  | 7, _ => h7
  | 8, _ => h8
  | 9, _ => h9
  | 10, _ => h10
  | 11, _ => h11
  | 12, _ => h12
  | 13, _ => h13
  | n + 14, h => by omega

/-- The words of the state, the target and the wanted command, and what of them is filled behind i rounds. -/
def cS (t : Int) (xf : Nat → Int) (o : Nat) : Int := if o < 6 then 0 else if o % 2 = 0 then hi (8 * t * xf (o / 2 - 3)) else lo (8 * t * xf (o / 2 - 3))
def cT (t T : Int) (xf yf : Nat → Int) (o : Nat) : Int :=
  if o < 6 then (if o % 2 = 0 then hi (8 * xf (o / 2) + 8 * yf (o / 2)) else lo (8 * xf (o / 2) + 8 * yf (o / 2)))
  else if o < 12 then (if o % 2 = 0 then hi (8 * t * xf (o / 2 - 3) + 16 * t * yf (o / 2 - 3)) else lo (8 * t * xf (o / 2 - 3) + 16 * t * yf (o / 2 - 3)))
  else if o = 12 then hi T else lo T
def cW (t : Int) (yf : Nat → Int) (o : Nat) : Int := if o % 2 = 0 then hi (t * t * yf (o / 2)) else lo (t * t * yf (o / 2))
def fS (t : Int) (xf : Nat → Int) (i o : Nat) : Int := if o < 6 + 2 * i then cS t xf o else 0
def fT (t T : Int) (xf yf : Nat → Int) (i j o : Nat) : Int := if o < 2 * i ∨ (6 ≤ o ∧ o < 6 + 2 * j) ∨ 12 ≤ o then cT t T xf yf o else 0
def fW (t : Int) (yf : Nat → Int) (i o : Nat) : Int := if o < 2 * i then cW t yf o else 0
theorem const_bounds (t x y : Int) (ht0 : 2 ≤ t) (ht1 : t ≤ 64) (hx : -32768 ≤ x ∧ x ≤ 32767) (hy : -32768 ≤ y ∧ y ≤ 32767) :
    (-16777216 ≤ 8 * t * x ∧ 8 * t * x ≤ 16777216) ∧ (-33554432 ≤ 16 * t * y ∧ 16 * t * y ≤ 33554432) ∧ (0 ≤ t * t ∧ t * t ≤ 4096) ∧ (-134217728 ≤ t * t * y ∧ t * t * y ≤ 134217728) := by
  have a := mul_size' (8 * t) x 512 32768 (by omega) (by omega) (by omega) (by omega) (by omega) (by omega)
  have b := mul_size' (16 * t) y 1024 32768 (by omega) (by omega) (by omega) (by omega) (by omega) (by omega)
  have c := mul_size' t t 64 64 (by omega) (by omega) (by omega) (by omega) (by omega) (by omega)
  have d := sqn t
  have e := mul_size' (t * t) y 4096 32768 (by omega) (by omega) (by omega) (by omega) (by omega) (by omega)
  exact ⟨⟨by omega, by omega⟩, ⟨by omega, by omega⟩, ⟨by omega, by omega⟩, ⟨by omega, by omega⟩⟩
theorem fS_next (t : Int) (xf : Nat → Int) (i o : Nat) :
    (if o = 6 + i * 2 + 1 then lo (8 * t * xf i) else if o = 6 + i * 2 then hi (8 * t * xf i) else fS t xf i o) = fS t xf (i + 1) o := by
  unfold fS cS
  by_cases e1 : o = 6 + i * 2 + 1
  · subst e1
    rw [if_pos rfl, if_pos (by omega), if_neg (by omega), if_neg (by omega), show (6 + i * 2 + 1) / 2 - 3 = i by omega]
  · by_cases e2 : o = 6 + i * 2
    · subst e2
      rw [if_neg (by omega), if_pos rfl, if_pos (by omega), if_neg (by omega), if_pos (by omega), show (6 + i * 2) / 2 - 3 = i by omega]
    · rw [if_neg e1, if_neg e2]
      by_cases c : o < 6 + 2 * i
      · rw [if_pos c, if_pos (show o < 6 + 2 * (i + 1) by omega)]
      · rw [if_neg c, if_neg (show ¬ o < 6 + 2 * (i + 1) by omega)]
theorem fW_next (t : Int) (yf : Nat → Int) (i o : Nat) :
    (if o = i * 2 + 1 then lo (t * t * yf i) else if o = i * 2 then hi (t * t * yf i) else fW t yf i o) = fW t yf (i + 1) o := by
  unfold fW cW
  by_cases e1 : o = i * 2 + 1
  · subst e1
    rw [if_pos rfl, if_pos (by omega), if_neg (by omega), show (i * 2 + 1) / 2 = i by omega]
  · by_cases e2 : o = i * 2
    · subst e2
      rw [if_neg (by omega), if_pos rfl, if_pos (by omega), if_pos (by omega), show (i * 2) / 2 = i by omega]
    · rw [if_neg e1, if_neg e2]
      by_cases c : o < 2 * i
      · rw [if_pos c, if_pos (show o < 2 * (i + 1) by omega)]
      · rw [if_neg c, if_neg (show ¬ o < 2 * (i + 1) by omega)]
theorem fT_nextR (t T : Int) (xf yf : Nat → Int) (i j o : Nat) (hi3 : i < 3) :
    (if o = i * 2 + 1 then lo (8 * xf i + 8 * yf i) else if o = i * 2 then hi (8 * xf i + 8 * yf i) else fT t T xf yf i j o) = fT t T xf yf (i + 1) j o := by
  unfold fT cT
  by_cases e1 : o = i * 2 + 1
  · subst e1
    rw [if_pos rfl, if_pos (by omega), if_pos (by omega), if_neg (by omega), show (i * 2 + 1) / 2 = i by omega]
  · by_cases e2 : o = i * 2
    · subst e2
      rw [if_neg (by omega), if_pos rfl, if_pos (by omega), if_pos (by omega), if_pos (by omega), show (i * 2) / 2 = i by omega]
    · rw [if_neg e1, if_neg e2]
      by_cases c : o < 2 * i ∨ (6 ≤ o ∧ o < 6 + 2 * j) ∨ 12 ≤ o
      · rw [if_pos c, if_pos (show o < 2 * (i + 1) ∨ (6 ≤ o ∧ o < 6 + 2 * j) ∨ 12 ≤ o by omega)]
      · rw [if_neg c, if_neg (show ¬ (o < 2 * (i + 1) ∨ (6 ≤ o ∧ o < 6 + 2 * j) ∨ 12 ≤ o) by omega)]
theorem fT_nextV (t T : Int) (xf yf : Nat → Int) (i j o : Nat) (hj3 : j < 3) (hi3 : i ≤ 3) :
    (if o = 6 + j * 2 + 1 then lo (8 * t * xf j + 16 * t * yf j) else if o = 6 + j * 2 then hi (8 * t * xf j + 16 * t * yf j) else fT t T xf yf i j o) = fT t T xf yf i (j + 1) o := by
  unfold fT cT
  by_cases e1 : o = 6 + j * 2 + 1
  · subst e1
    rw [if_pos rfl, if_pos (by omega), if_neg (by omega), if_pos (by omega), if_neg (by omega), show (6 + j * 2 + 1) / 2 - 3 = j by omega]
  · by_cases e2 : o = 6 + j * 2
    · subst e2
      rw [if_neg (by omega), if_pos rfl, if_pos (by omega), if_neg (by omega), if_pos (by omega), if_pos (by omega), show (6 + j * 2) / 2 - 3 = j by omega]
    · rw [if_neg e1, if_neg e2]
      by_cases c : o < 2 * i ∨ (6 ≤ o ∧ o < 6 + 2 * j) ∨ 12 ≤ o
      · rw [if_pos c, if_pos (show o < 2 * i ∨ (6 ≤ o ∧ o < 6 + 2 * (j + 1)) ∨ 12 ≤ o by omega)]
      · rw [if_neg c, if_neg (show ¬ (o < 2 * i ∨ (6 ≤ o ∧ o < 6 + 2 * (j + 1)) ∨ 12 ≤ o) by omega)]


set_option maxRecDepth 100000 in
set_option maxHeartbeats 4000000 in
theorem const_fn (xf yf c : Nat → Int) (t T r k : Int) (o : Bool) (hx : ∀ i, i < 3 → -32768 ≤ xf i ∧ xf i ≤ 32767) (hy : ∀ i, i < 3 → -32768 ≤ yf i ∧ yf i ≤ 32767)
    (hk0 : 0 ≤ k) (hk1 : k < 256) (hr : k.tmod 6 = r) (hr0 : 0 ≤ r) (hr1 : r ≤ 5) (h2 : wrap64 (2 ^ (1 + r).toNat) = t) (ht0 : 2 ≤ t) (ht1 : t ≤ 64) (hq : 268435456 / t = T) (hT0 : 0 ≤ T) (hT1 : T ≤ 134217728)
    (K : ∀ w, Calls Try.prog 11 #[(.agg #[.int .u16 (cS t xf 0), .int .u16 (cS t xf 1), .int .u16 (cS t xf 2), .int .u16 (cS t xf 3), .int .u16 (cS t xf 4), .int .u16 (cS t xf 5), .int .u16 (cS t xf 6), .int .u16 (cS t xf 7), .int .u16 (cS t xf 8), .int .u16 (cS t xf 9), .int .u16 (cS t xf 10), .int .u16 (cS t xf 11)]), (.agg #[.int .u16 (cT t T xf yf 0), .int .u16 (cT t T xf yf 1), .int .u16 (cT t T xf yf 2), .int .u16 (cT t T xf yf 3), .int .u16 (cT t T xf yf 4), .int .u16 (cT t T xf yf 5), .int .u16 (cT t T xf yf 6), .int .u16 (cT t T xf yf 7), .int .u16 (cT t T xf yf 8), .int .u16 (cT t T xf yf 9), .int .u16 (cT t T xf yf 10), .int .u16 (cT t T xf yf 11), .int .u16 (cT t T xf yf 12), .int .u16 (cT t T xf yf 13)])] w fun e w' => e = .returned (.tuple #[(.agg #[.int .u16 (c 0), .int .u16 (c 1), .int .u16 (c 2), .int .u16 (c 3), .int .u16 (c 4), .int .u16 (c 5)]), .bool o, .int .i64 0]) ∧ Below w.heap.size w w')
    (hc : o = false → ∀ j, j < 6 → c j = cW t yf j) (w : World) :
    Calls Try.prog 4 #[.agg #[.int .i16 (xf 0), .int .i16 (xf 1), .int .i16 (xf 2)], .agg #[.int .i16 (yf 0), .int .i16 (yf 1), .int .i16 (yf 2)], .int .u8 k] w fun e w' => e = .returned (.bool true) ∧ Below w.heap.size w w' := by
  have htn : ¬ t = 0 := by omega
  have HX := keep hx
  have HY := keep hy
  have HC := keep hc
  clear hx hy hc
  go_enter Try.func4, Try.ntmps4
  go_wp2_with fail
  refine (lives35 _).mono ?_
  rintro _ r1 ⟨rfl, hbr1⟩
  obtain ⟨hcr1, hfr1⟩ := bcell hbr1
  have hzr1 := hbr1.size
  try simp only [World.size_alloc, World.size_setCell, World.size_drew] at hzr1
  have hlr1w0 : w.heap.size < r1.heap.size := by omega
  have hlr1w1 : w.heap.size + 1 < r1.heap.size := by omega
  go_wp2_with fail
  simp only [hq, h2]
  go_wp2_with fail
  refine (rdouble_any T (by omega) (by omega) _).mono ?_
  rintro _ r2 ⟨rfl, hbr2⟩
  obtain ⟨hcr2, hfr2⟩ := bcell hbr2
  have hzr2 := hbr2.size
  try simp only [World.size_alloc, World.size_setCell, World.size_drew] at hzr2
  have hlr2w0 : w.heap.size < r2.heap.size := by omega
  have hlr2w1 : w.heap.size + 1 < r2.heap.size := by omega
  have hlr2r10 : r1.heap.size < r2.heap.size := by omega
  go_wp2_with fail
  refine wp_gen (fun W => Below w.heap.size w W ∧ r2.heap.size + 2 ≤ W.heap.size ∧ HoldsI W w.heap.size 3 xf ∧ HoldsI W (w.heap.size + 1) 3 yf ∧ Holds W r1.heap.size 12 (fS t xf 0) ∧ Loose W r1.heap.size ∧ Holds W r2.heap.size 14 (fT t T xf yf 0 0) ∧ Loose W r2.heap.size ∧ Holds W (r2.heap.size + 1) 6 (fW t yf 0) ∧ Loose W (r2.heap.size + 1)) ⟨(by repeat' (first | (with_reducible exact Below.refl _ _) | (with_reducible refine bl_set ?_ _ ?_) | (with_reducible refine bl_alloc ?_ _) | (with_reducible refine bl_drew ?_) | (with_reducible refine bl_via (by with_reducible assumption) ?_) | (with_reducible assumption) | omega | (simp only []; omega) | (simp; omega))), by simp, ?_, ?_, ?_, ?_, ?_, ?_, ?_, ?_⟩ ?_
  · apply all3 <;> go_simp
  · apply all3 <;> go_simp
  · apply all12 <;> (show _ = some (Value.int .u16 0); go_simp)
  · intro o; go_simp
  · exact Holds.congr (g := fun o => if o < 12 then 0 else if o = 12 then hi T else lo T) (by apply all14 <;> (simp only [show (12 : Nat) < 12 ↔ False by decide, show (13 : Nat) < 12 ↔ False by decide, if_false]; go_simp)) (fun o ho => by unfold fT cT; (repeat' split) <;> first | rfl | omega)
  · intro o; go_simp
  · apply all6 <;> (show _ = some (Value.int .u16 0); go_simp)
  · intro o; go_simp
  clear hcr1 hfr1 hbr1 hcr2 hfr2 hbr2
  rintro W0 ⟨hb0, hs0, hv0, ha0, hS0, hSf0, hT0, hTf0, hW0, hWf0⟩
  go_loopw [12] (fun v W => ∃ i : Nat, i ≤ 3 ∧ v = .int .i64 i ∧ Below w.heap.size w W ∧ r2.heap.size + 2 ≤ W.heap.size ∧ HoldsI W w.heap.size 3 xf ∧ HoldsI W (w.heap.size + 1) 3 yf ∧ Holds W r1.heap.size 12 (fS t xf i) ∧ Loose W r1.heap.size ∧ Holds W r2.heap.size 14 (fT t T xf yf i i) ∧ Loose W r2.heap.size ∧ Holds W (r2.heap.size + 1) 6 (fW t yf i) ∧ Loose W (r2.heap.size + 1)) (fun v _ => (3 - intOf v).toNat)
  case atStart => exact ⟨0, by omega, rfl, hb0, hs0, hv0, ha0, hS0, hSf0, hT0, hTf0, hW0, hWf0⟩
  case round =>
    clear hb0 hs0 hv0 ha0 hS0 hSf0 hT0 hTf0 hW0 hWf0
    obtain ⟨i, hI, rfl, hb1, hs1, hv1, ha1, hS1, hSf1, hT1, hTf1, hW1, hWf1⟩ := hrel
    by_cases hlt : i < 3
    · have hbx := HX.out i hlt
      have hby := HY.out i hlt
      obtain ⟨c1, c2, c3, c4⟩ := const_bounds t (xf i) (yf i) ht0 ht1 hbx hby
      have hA := hv1 i hlt
      have hB := ha1 i hlt
      have hla : w.heap.size < wr.heap.size := by omega
      have hlb : w.heap.size + 1 < wr.heap.size := by omega
      go_wp2_with fail
      have hecr3 := @Ext.cell
      refine wp_region_ext (by kernel_rfl) (by kernel_rfl) ?_
      repeat (first | go_big_quiet_skip | (go_big_quiet_want; go_big_quiet_op; first | go_big_quiet_on | (go_big_quiet_call ((first | fail | fail)))))
      clear hecr3
      refine wpQuiet_nil ?_
      rintro r3 ⟨⟨_, hbr3⟩, rfl⟩
      obtain ⟨hcr3, hfr3⟩ := bcell hbr3
      have hzr3 := hbr3.size
      try simp only [World.size_alloc, World.size_setCell, World.size_drew] at hzr3
      have O1 := fun w => rout_any (8 * t * xf i + 16 * t * yf i) 268435455 (by omega) (by omega) w
      have O2 := fun w => rout_any (t * t * yf i) 268435455 (by omega) (by omega) w
      rw [outb_in _ _ (by omega) (by omega)] at O1 O2
      have hb3 := bl_via hbr3 hb1
      have hv3 := (hv1).on hbr3 (by (try simp only [World.size_setCell]); omega)
      have ha3 := (ha1).on hbr3 (by (try simp only [World.size_setCell]); omega)
      have hS3 := (hS1).on hbr3 (by (try simp only [World.size_setCell]); omega)
      have hSf3 := (hSf1).on hbr3 (by (try simp only [World.size_setCell]); omega)
      have hT3 := (hT1).on hbr3 (by (try simp only [World.size_setCell]); omega)
      have hTf3 := (hTf1).on hbr3 (by (try simp only [World.size_setCell]); omega)
      have hW3 := (hW1).on hbr3 (by (try simp only [World.size_setCell]); omega)
      have hWf3 := (hWf1).on hbr3 (by (try simp only [World.size_setCell]); omega)
      clear hv1 ha1 hS1 hSf1 hT1 hTf1 hW1 hWf1
      clear hcr3 hfr3 hbr3
      clear hA hB hla hlb
      go_wp2_with fail
      refine (rdouble_any (8 * t * xf i) (by omega) (by omega) _).mono ?_
      rintro _ r4 ⟨rfl, hbr4⟩
      obtain ⟨hcr4, hfr4⟩ := bcell hbr4
      have hzr4 := hbr4.size
      try simp only [World.size_alloc, World.size_setCell, World.size_drew] at hzr4
      have hb4 := bl_via hbr4 hb3
      have hv4 := (hv3).on hbr4 (by (try simp only [World.size_setCell]); omega)
      have ha4 := (ha3).on hbr4 (by (try simp only [World.size_setCell]); omega)
      have hS4 := (hS3).on hbr4 (by (try simp only [World.size_setCell]); omega)
      have hSf4 := (hSf3).on hbr4 (by (try simp only [World.size_setCell]); omega)
      have hT4 := (hT3).on hbr4 (by (try simp only [World.size_setCell]); omega)
      have hTf4 := (hTf3).on hbr4 (by (try simp only [World.size_setCell]); omega)
      have hW4 := (hW3).on hbr4 (by (try simp only [World.size_setCell]); omega)
      have hWf4 := (hWf3).on hbr4 (by (try simp only [World.size_setCell]); omega)
      clear hv3 ha3 hS3 hSf3 hT3 hTf3 hW3 hWf3
      clear hcr4 hfr4 hbr4
      have p40 := hS4 (6 + i * 2) (by omega)
      have p41 := hS4 (6 + i * 2 + 1) (by omega)
      have p42 := hSf4 (6 + i * 2)
      have p43 := hSf4 (6 + i * 2 + 1)
      go_wp2_with fail
      refine (rdouble_any (8 * xf i + 8 * yf i) (by omega) (by omega) _).mono ?_
      rintro _ r5 ⟨rfl, hbr5⟩
      obtain ⟨hcr5, hfr5⟩ := bcell hbr5
      have hzr5 := hbr5.size
      try simp only [World.size_alloc, World.size_setCell, World.size_drew] at hzr5
      have hb5 : Below w.heap.size w r5 := (by repeat' (first | (with_reducible exact Below.refl _ _) | (with_reducible refine bl_set ?_ _ ?_) | (with_reducible refine bl_alloc ?_ _) | (with_reducible refine bl_drew ?_) | (with_reducible refine bl_via (by with_reducible assumption) ?_) | (with_reducible assumption) | omega | (simp only []; omega) | (simp; omega)))
      have hv5 := ((hv4.far _ _ (by omega)).far _ _ (by omega)).on hbr5 (by (try simp only [World.size_setCell]); omega)
      have ha5 := ((ha4.far _ _ (by omega)).far _ _ (by omega)).on hbr5 (by (try simp only [World.size_setCell]); omega)
      have hS5 := (Holds.congr ((hS4.set _ _ (by omega)).set _ _ (by omega)) (fun o _ => fS_next t xf i o)).on hbr5 (by (try simp only [World.size_setCell]); omega)
      have hSf5 := ((hSf4.set _ _).set _ _).on hbr5 (by (try simp only [World.size_setCell]); omega)
      have hT5 := ((hT4.far _ _ (by omega)).far _ _ (by omega)).on hbr5 (by (try simp only [World.size_setCell]); omega)
      have hTf5 := ((hTf4.set _ _).set _ _).on hbr5 (by (try simp only [World.size_setCell]); omega)
      have hW5 := ((hW4.far _ _ (by omega)).far _ _ (by omega)).on hbr5 (by (try simp only [World.size_setCell]); omega)
      have hWf5 := ((hWf4.set _ _).set _ _).on hbr5 (by (try simp only [World.size_setCell]); omega)
      clear hv4 ha4 hS4 hSf4 hT4 hTf4 hW4 hWf4
      clear p40 p41 p42 p43
      clear hcr5 hfr5 hbr5
      have p50 := hT5 (i * 2) (by omega)
      have p51 := hT5 (i * 2 + 1) (by omega)
      have p52 := hTf5 (i * 2)
      have p53 := hTf5 (i * 2 + 1)
      go_wp2_with fail
      refine (O1 _).mono ?_
      rintro _ _ ⟨rfl, rfl⟩
      go_wp2_with fail
      refine (O2 _).mono ?_
      rintro _ _ ⟨rfl, rfl⟩
      go_wp2_with fail
      refine (rdouble_any (8 * t * xf i + 16 * t * yf i) (by omega) (by omega) _).mono ?_
      rintro _ r6 ⟨rfl, hbr6⟩
      obtain ⟨hcr6, hfr6⟩ := bcell hbr6
      have hzr6 := hbr6.size
      try simp only [World.size_alloc, World.size_setCell, World.size_drew] at hzr6
      have hb6 : Below w.heap.size w r6 := (by repeat' (first | (with_reducible exact Below.refl _ _) | (with_reducible refine bl_set ?_ _ ?_) | (with_reducible refine bl_alloc ?_ _) | (with_reducible refine bl_drew ?_) | (with_reducible refine bl_via (by with_reducible assumption) ?_) | (with_reducible assumption) | omega | (simp only []; omega) | (simp; omega)))
      have hv6 := ((hv5.far _ _ (by omega)).far _ _ (by omega)).on hbr6 (by (try simp only [World.size_setCell]); omega)
      have ha6 := ((ha5.far _ _ (by omega)).far _ _ (by omega)).on hbr6 (by (try simp only [World.size_setCell]); omega)
      have hS6 := ((hS5.far _ _ (by omega)).far _ _ (by omega)).on hbr6 (by (try simp only [World.size_setCell]); omega)
      have hSf6 := ((hSf5.set _ _).set _ _).on hbr6 (by (try simp only [World.size_setCell]); omega)
      have hT6 := (Holds.congr ((hT5.set _ _ (by omega)).set _ _ (by omega)) (fun o _ => fT_nextR t T xf yf i i o hlt)).on hbr6 (by (try simp only [World.size_setCell]); omega)
      have hTf6 := ((hTf5.set _ _).set _ _).on hbr6 (by (try simp only [World.size_setCell]); omega)
      have hW6 := ((hW5.far _ _ (by omega)).far _ _ (by omega)).on hbr6 (by (try simp only [World.size_setCell]); omega)
      have hWf6 := ((hWf5.set _ _).set _ _).on hbr6 (by (try simp only [World.size_setCell]); omega)
      clear hv5 ha5 hS5 hSf5 hT5 hTf5 hW5 hWf5
      clear p50 p51 p52 p53
      clear hcr6 hfr6 hbr6
      have p60 := hT6 (6 + i * 2) (by omega)
      have p61 := hT6 (6 + i * 2 + 1) (by omega)
      have p62 := hTf6 (6 + i * 2)
      have p63 := hTf6 (6 + i * 2 + 1)
      go_wp2_with fail
      refine (rdouble_any (t * t * yf i) (by omega) (by omega) _).mono ?_
      rintro _ r7 ⟨rfl, hbr7⟩
      obtain ⟨hcr7, hfr7⟩ := bcell hbr7
      have hzr7 := hbr7.size
      try simp only [World.size_alloc, World.size_setCell, World.size_drew] at hzr7
      have hb7 : Below w.heap.size w r7 := (by repeat' (first | (with_reducible exact Below.refl _ _) | (with_reducible refine bl_set ?_ _ ?_) | (with_reducible refine bl_alloc ?_ _) | (with_reducible refine bl_drew ?_) | (with_reducible refine bl_via (by with_reducible assumption) ?_) | (with_reducible assumption) | omega | (simp only []; omega) | (simp; omega)))
      have hv7 := ((hv6.far _ _ (by omega)).far _ _ (by omega)).on hbr7 (by (try simp only [World.size_setCell]); omega)
      have ha7 := ((ha6.far _ _ (by omega)).far _ _ (by omega)).on hbr7 (by (try simp only [World.size_setCell]); omega)
      have hS7 := ((hS6.far _ _ (by omega)).far _ _ (by omega)).on hbr7 (by (try simp only [World.size_setCell]); omega)
      have hSf7 := ((hSf6.set _ _).set _ _).on hbr7 (by (try simp only [World.size_setCell]); omega)
      have hT7 := (Holds.congr ((hT6.set _ _ (by omega)).set _ _ (by omega)) (fun o _ => fT_nextV t T xf yf (i + 1) i o hlt (by omega))).on hbr7 (by (try simp only [World.size_setCell]); omega)
      have hTf7 := ((hTf6.set _ _).set _ _).on hbr7 (by (try simp only [World.size_setCell]); omega)
      have hW7 := ((hW6.far _ _ (by omega)).far _ _ (by omega)).on hbr7 (by (try simp only [World.size_setCell]); omega)
      have hWf7 := ((hWf6.set _ _).set _ _).on hbr7 (by (try simp only [World.size_setCell]); omega)
      clear hv6 ha6 hS6 hSf6 hT6 hTf6 hW6 hWf6
      clear p60 p61 p62 p63
      clear hcr7 hfr7 hbr7
      have p70 := hW7 (i * 2) (by omega)
      have p71 := hW7 (i * 2 + 1) (by omega)
      have p72 := hWf7 (i * 2)
      have p73 := hWf7 (i * 2 + 1)
      go_wp2_with fail
      go_roundw
      case rel =>
        exact ⟨i + 1, by omega, by go_num, (by repeat' (first | (with_reducible exact Below.refl _ _) | (with_reducible refine bl_set ?_ _ ?_) | (with_reducible refine bl_alloc ?_ _) | (with_reducible refine bl_drew ?_) | (with_reducible refine bl_via (by with_reducible assumption) ?_) | (with_reducible assumption) | omega | (simp only []; omega) | (simp; omega))), by (try simp only [World.size_setCell]); omega, (hv7.far _ _ (by omega)).far _ _ (by omega), (ha7.far _ _ (by omega)).far _ _ (by omega), (hS7.far _ _ (by omega)).far _ _ (by omega), (hSf7.set _ _).set _ _, (hT7.far _ _ (by omega)).far _ _ (by omega), (hTf7.set _ _).set _ _, Holds.congr ((hW7.set _ _ (by omega)).set _ _ (by omega)) (fun o _ => fW_next t yf i o), (hWf7.set _ _).set _ _⟩
      case measure => simp [intOf]; omega
    · obtain rfl : i = 3 := by omega
      have hS3 := hS1.congr (g' := cS t xf) (fun o ho => by unfold fS; rw [if_pos (by omega)])
      have hT3 := hT1.congr (g' := cT t T xf yf) (fun o ho => by unfold fT; rw [if_pos (by omega)])
      have hW3 := hW1.congr (g' := cW t yf) (fun o ho => by unfold fW; rw [if_pos (by omega)])
      clear hS1 hT1 hW1 hv1 ha1 hSf1 hTf1 hWf1
      have hev := @eq_vec
      have s0 := hS3 0 (by omega)
      have s1 := hS3 1 (by omega)
      have s2 := hS3 2 (by omega)
      have s3 := hS3 3 (by omega)
      have s4 := hS3 4 (by omega)
      have s5 := hS3 5 (by omega)
      have s6 := hS3 6 (by omega)
      have s7 := hS3 7 (by omega)
      have s8 := hS3 8 (by omega)
      have s9 := hS3 9 (by omega)
      have s10 := hS3 10 (by omega)
      have s11 := hS3 11 (by omega)
      have t0 := hT3 0 (by omega)
      have t1 := hT3 1 (by omega)
      have t2 := hT3 2 (by omega)
      have t3 := hT3 3 (by omega)
      have t4 := hT3 4 (by omega)
      have t5 := hT3 5 (by omega)
      have t6 := hT3 6 (by omega)
      have t7 := hT3 7 (by omega)
      have t8 := hT3 8 (by omega)
      have t9 := hT3 9 (by omega)
      have t10 := hT3 10 (by omega)
      have t11 := hT3 11 (by omega)
      have t12 := hT3 12 (by omega)
      have t13 := hT3 13 (by omega)
      have q1 : r1.heap.size < wr.heap.size := by omega
      have q2 : r2.heap.size < wr.heap.size := by omega
      cases o
      · have HC' := HC.out rfl
        rw [HC' 0 (by omega), HC' 1 (by omega), HC' 2 (by omega), HC' 3 (by omega), HC' 4 (by omega), HC' 5 (by omega)] at K
        clear HC'
        go_wp2_with fail
        refine (K _).mono ?_
        rintro _ r3 ⟨rfl, hbr3⟩
        obtain ⟨hcr3, hfr3⟩ := bcell hbr3
        have hzr3 := hbr3.size
        try simp only [World.size_alloc, World.size_setCell, World.size_drew] at hzr3
        have hW4 := hW3.on hbr3 (by omega)
        have w0 := hW4 0 (by omega)
        have w1 := hW4 1 (by omega)
        have w2 := hW4 2 (by omega)
        have w3 := hW4 3 (by omega)
        have w4 := hW4 4 (by omega)
        have w5 := hW4 5 (by omega)
        clear hW3 hW4 s0 s1 s2 s3 s4 s5 s6 s7 s8 s9 s10 s11 t0 t1 t2 t3 t4 t5 t6 t7 t8 t9 t10 t11 t12 t13 hS3 hT3
        have q3 : r2.heap.size + 1 < r3.heap.size := by omega
        go_wp2
        go_ret
        exact ⟨rfl, (by repeat' (first | (with_reducible exact Below.refl _ _) | (with_reducible refine bl_set ?_ _ ?_) | (with_reducible refine bl_alloc ?_ _) | (with_reducible refine bl_drew ?_) | (with_reducible refine bl_via (by with_reducible assumption) ?_) | (with_reducible assumption) | omega | (simp only []; omega) | (simp; omega)))⟩
      · clear HC
        go_wp2_with fail
        refine (K _).mono ?_
        rintro _ r3 ⟨rfl, hbr3⟩
        obtain ⟨hcr3, hfr3⟩ := bcell hbr3
        have hzr3 := hbr3.size
        try simp only [World.size_alloc, World.size_setCell, World.size_drew] at hzr3
        have hW4 := hW3.on hbr3 (by omega)
        have w0 := hW4 0 (by omega)
        have w1 := hW4 1 (by omega)
        have w2 := hW4 2 (by omega)
        have w3 := hW4 3 (by omega)
        have w4 := hW4 4 (by omega)
        have w5 := hW4 5 (by omega)
        clear hW3 hW4 s0 s1 s2 s3 s4 s5 s6 s7 s8 s9 s10 s11 t0 t1 t2 t3 t4 t5 t6 t7 t8 t9 t10 t11 t12 t13 hS3 hT3
        have q3 : r2.heap.size + 1 < r3.heap.size := by omega
        go_wp2
        go_ret
        exact ⟨rfl, (by repeat' (first | (with_reducible exact Below.refl _ _) | (with_reducible refine bl_set ?_ _ ?_) | (with_reducible refine bl_alloc ?_ _) | (with_reducible refine bl_drew ?_) | (with_reducible refine bl_via (by with_reducible assumption) ?_) | (with_reducible assumption) | omega | (simp only []; omega) | (simp; omega)))⟩

def p3 (a b c : Int) : Nat → Int
  | 0 => a
  | 1 => b
  | _ => c
def p6 (a b c d e f : Int) : Nat → Int
  | 0 => a
  | 1 => b
  | 2 => c
  | 3 => d
  | 4 => e
  | _ => f
theorem six (k : Int) (h : 0 ≤ k) : ∃ r t T : Int, k.tmod 6 = r ∧ 0 ≤ r ∧ r ≤ 5 ∧ wrap64 (2 ^ (1 + r).toNat) = t ∧ 268435456 / t = T ∧
    (t = 2 ∧ T = 134217728 ∨ t = 4 ∧ T = 67108864 ∨ t = 8 ∧ T = 33554432 ∨ t = 16 ∧ T = 16777216 ∨ t = 32 ∧ T = 8388608 ∨ t = 64 ∧ T = 4194304) := by
  have e : k.tmod 6 = k % 6 := Int.tmod_eq_emod_of_nonneg h
  rcases (show k % 6 = 0 ∨ k % 6 = 1 ∨ k % 6 = 2 ∨ k % 6 = 3 ∨ k % 6 = 4 ∨ k % 6 = 5 by omega) with q | q | q | q | q | q
  · exact ⟨0, 2, 134217728, e.trans q, by omega, by omega, by decide +kernel, by decide +kernel, by omega⟩
  · exact ⟨1, 4, 67108864, e.trans q, by omega, by omega, by decide +kernel, by decide +kernel, by omega⟩
  · exact ⟨2, 8, 33554432, e.trans q, by omega, by omega, by decide +kernel, by decide +kernel, by omega⟩
  · exact ⟨3, 16, 16777216, e.trans q, by omega, by omega, by decide +kernel, by decide +kernel, by omega⟩
  · exact ⟨4, 32, 8388608, e.trans q, by omega, by omega, by decide +kernel, by decide +kernel, by omega⟩
  · exact ⟨5, 64, 4194304, e.trans q, by omega, by omega, by decide +kernel, by decide +kernel, by omega⟩

set_option maxRecDepth 100000 in
set_option maxHeartbeats 4000000 in
theorem constant_law (x0 x1 x2 y0 y1 y2 k : Int) (hx00 : -32768 ≤ x0) (hx01 : x0 < 32768) (hx10 : -32768 ≤ x1) (hx11 : x1 < 32768) (hx20 : -32768 ≤ x2) (hx21 : x2 < 32768) (hy00 : -32768 ≤ y0) (hy01 : y0 < 32768) (hy10 : -32768 ≤ y1) (hy11 : y1 < 32768) (hy20 : -32768 ≤ y2) (hy21 : y2 < 32768) (hk0 : 0 ≤ k) (hk1 : k ≤ 255) (w : World) :
    Calls Try.prog 4 #[.agg #[.int .i16 x0, .int .i16 x1, .int .i16 x2], .agg #[.int .i16 y0, .int .i16 y1, .int .i16 y2], .int .u8 k] w fun e w' => e = .returned (.bool true) ∧ Below w.heap.size w w' := by
  obtain ⟨r, t, T, hr, hr0, hr1, h2, hq, ht⟩ := six k hk0
  have ht0 : 2 ≤ t ∧ t ≤ 64 := by omega
  have hT0 : 4194304 ≤ T ∧ T ≤ 134217728 := by omega
  obtain ⟨⟨a00, a01⟩, ⟨b00, b01⟩, _, c00, c01⟩ := const_bounds t x0 y0 ht0.1 ht0.2 (by omega) (by omega)
  obtain ⟨⟨a10, a11⟩, ⟨b10, b11⟩, _, c10, c11⟩ := const_bounds t x1 y1 ht0.1 ht0.2 (by omega) (by omega)
  obtain ⟨⟨a20, a21⟩, ⟨b20, b21⟩, _, c20, c21⟩ := const_bounds t x2 y2 ht0.1 ht0.2 (by omega) (by omega)
  have k0 := hi_lo (8 * t * x0) (by omega) (by omega)
  have e0 := val_of (8 * t * x0) (by omega) (by omega)
  have k1 := hi_lo (8 * t * x1) (by omega) (by omega)
  have e1 := val_of (8 * t * x1) (by omega) (by omega)
  have k2 := hi_lo (8 * t * x2) (by omega) (by omega)
  have e2 := val_of (8 * t * x2) (by omega) (by omega)
  have k3 := hi_lo (8 * x0 + 8 * y0) (by omega) (by omega)
  have e3 := val_of (8 * x0 + 8 * y0) (by omega) (by omega)
  have k4 := hi_lo (8 * x1 + 8 * y1) (by omega) (by omega)
  have e4 := val_of (8 * x1 + 8 * y1) (by omega) (by omega)
  have k5 := hi_lo (8 * x2 + 8 * y2) (by omega) (by omega)
  have e5 := val_of (8 * x2 + 8 * y2) (by omega) (by omega)
  have k6 := hi_lo (8 * t * x0 + 16 * t * y0) (by omega) (by omega)
  have e6 := val_of (8 * t * x0 + 16 * t * y0) (by omega) (by omega)
  have k7 := hi_lo (8 * t * x1 + 16 * t * y1) (by omega) (by omega)
  have e7 := val_of (8 * t * x1 + 16 * t * y1) (by omega) (by omega)
  have k8 := hi_lo (8 * t * x2 + 16 * t * y2) (by omega) (by omega)
  have e8 := val_of (8 * t * x2 + 16 * t * y2) (by omega) (by omega)
  have k9 := hi_lo (T) (by omega) (by omega)
  have e9 := val_of (T) (by omega) (by omega)
  have z : val 0 0 = 0 := by decide +kernel
  have K := fun w => command_any 0 0 0 0 0 0 (hi (8 * t * x0)) (lo (8 * t * x0)) (hi (8 * t * x1)) (lo (8 * t * x1)) (hi (8 * t * x2)) (lo (8 * t * x2)) (hi (8 * x0 + 8 * y0)) (lo (8 * x0 + 8 * y0)) (hi (8 * x1 + 8 * y1)) (lo (8 * x1 + 8 * y1)) (hi (8 * x2 + 8 * y2)) (lo (8 * x2 + 8 * y2)) (hi (8 * t * x0 + 16 * t * y0)) (lo (8 * t * x0 + 16 * t * y0)) (hi (8 * t * x1 + 16 * t * y1)) (lo (8 * t * x1 + 16 * t * y1)) (hi (8 * t * x2 + 16 * t * y2)) (lo (8 * t * x2 + 16 * t * y2)) (hi T) (lo T) (by omega) (by omega) (by omega) (by omega) (by omega) (by omega) (by omega) (by omega) (by omega) (by omega) (by omega) (by omega) (by omega) (by omega) (by omega) (by omega) (by omega) (by omega) (by omega) (by omega) (by omega) (by omega) (by omega) (by omega) (by omega) (by omega) (by omega) (by omega) (by omega) (by omega) (by omega) (by omega) (by omega) (by omega) (by omega) (by omega) (by omega) (by omega) (by omega) (by omega) (by omega) (by omega) (by omega) (by omega) (by omega) (by omega) (by omega) (by omega) (by omega) (by omega) (by omega) (by omega) (by omega) w
  simp only [z, e0, e1, e2, e3, e4, e5, e6, e7, e8, e9] at K
  clear k0 k1 k2 k3 k4 k5 k6 k7 k8 k9
  refine const_fn (p3 x0 x1 x2) (p3 y0 y1 y2) (p6 (hi (cmc 0 (8 * t * x0) (8 * x0 + 8 * y0) (8 * t * x0 + 16 * t * y0) T)) (lo (cmc 0 (8 * t * x0) (8 * x0 + 8 * y0) (8 * t * x0 + 16 * t * y0) T)) (hi (cmc 0 (8 * t * x1) (8 * x1 + 8 * y1) (8 * t * x1 + 16 * t * y1) T)) (lo (cmc 0 (8 * t * x1) (8 * x1 + 8 * y1) (8 * t * x1 + 16 * t * y1) T)) (hi (cmc 0 (8 * t * x2) (8 * x2 + 8 * y2) (8 * t * x2 + 16 * t * y2) T)) (lo (cmc 0 (8 * t * x2) (8 * x2 + 8 * y2) (8 * t * x2 + 16 * t * y2) T))) t T r k _ (fun i h => ?_) (fun i h => ?_) hk0 (by omega) hr hr0 hr1 h2 ht0.1 ht0.2 hq (by omega) (by omega) K (fun h => ?_) w
  · rcases (show i = 0 ∨ i = 1 ∨ i = 2 by omega) with rfl | rfl | rfl
    · exact ⟨by show -32768 ≤ x0; omega, by show x0 ≤ 32767; omega⟩
    · exact ⟨by show -32768 ≤ x1; omega, by show x1 ≤ 32767; omega⟩
    · exact ⟨by show -32768 ≤ x2; omega, by show x2 ≤ 32767; omega⟩
  · rcases (show i = 0 ∨ i = 1 ∨ i = 2 by omega) with rfl | rfl | rfl
    · exact ⟨by show -32768 ≤ y0; omega, by show y0 ≤ 32767; omega⟩
    · exact ⟨by show -32768 ≤ y1; omega, by show y1 ≤ 32767; omega⟩
    · exact ⟨by show -32768 ≤ y2; omega, by show y2 ≤ 32767; omega⟩
  · simp only [Bool.or_eq_false_iff] at h
    obtain ⟨⟨⟨⟨⟨⟨⟨f10, f11⟩, f12⟩, ⟨f20, f21⟩, f22⟩, ⟨f30, f31⟩, f32⟩, _⟩, _⟩, _⟩ := h
    have g0 := cmc_const x0 y0 t T (by omega) (by omega) (by omega) (by omega) ht f10 f20 f30
    have g1 := cmc_const x1 y1 t T (by omega) (by omega) (by omega) (by omega) ht f11 f21 f31
    have g2 := cmc_const x2 y2 t T (by omega) (by omega) (by omega) (by omega) ht f12 f22 f32
    apply all6
    · show hi (cmc 0 (8 * t * x0) (8 * x0 + 8 * y0) (8 * t * x0 + 16 * t * y0) T) = hi (t * t * y0); rw [g0]
    · show lo (cmc 0 (8 * t * x0) (8 * x0 + 8 * y0) (8 * t * x0 + 16 * t * y0) T) = lo (t * t * y0); rw [g0]
    · show hi (cmc 0 (8 * t * x1) (8 * x1 + 8 * y1) (8 * t * x1 + 16 * t * y1) T) = hi (t * t * y1); rw [g1]
    · show lo (cmc 0 (8 * t * x1) (8 * x1 + 8 * y1) (8 * t * x1 + 16 * t * y1) T) = lo (t * t * y1); rw [g1]
    · show hi (cmc 0 (8 * t * x2) (8 * x2 + 8 * y2) (8 * t * x2 + 16 * t * y2) T) = hi (t * t * y2); rw [g2]
    · show lo (cmc 0 (8 * t * x2) (8 * x2 + 8 * y2) (8 * t * x2 + 16 * t * y2) T) = lo (t * t * y2); rw [g2]
end Go.Proofs.Ytpmocegfiniafaa
