/- Small words for the walks: a world replaced by what is known of it; what holds of each of the first numbers; cells behind stores. No Go in it. -/
import Derived.Test.YtbbhppjamighdaaDoorKd
namespace Go.Proofs.YtbbhppjamighdaaDoor
set_option linter.unusedSimpArgs false
set_option linter.unusedVariables false
open Go.RowKit

theorem wp_gen {P : Program} {c : Code} {Q : Exit → Act → World → Prop} {a : Act} {w : World} (F : World → Prop) (h1 : F w) (h2 : ∀ w', F w' → c.wp P Q a w') : c.wp P Q a w := h2 w h1

theorem wpList_gen {P : Program} {ops : Array Oper} {Q : Exit → Act → World → Prop} {l : List Oper} {a : Act} {w : World} (F : World → Prop) (h1 : F w) (h2 : ∀ w', F w' → wpList P ops Q l a w') : wpList P ops Q l a w := h2 w h1

theorem all6 {p : Nat → Prop} (h0 : p 0) (h1 : p 1) (h2 : p 2) (h3 : p 3) (h4 : p 4) (h5 : p 5) : ∀ o, o < 6 → p o
  | 0, _ => h0 | 1, _ => h1 | 2, _ => h2 | 3, _ => h3 | 4, _ => h4 | 5, _ => h5
  | n + 6, h => by omega
theorem all18 {p : Nat → Prop} (h0 : p 0) (h1 : p 1) (h2 : p 2) (h3 : p 3) (h4 : p 4) (h5 : p 5) (h6 : p 6) (h7 : p 7) (h8 : p 8) (h9 : p 9) (h10 : p 10) (h11 : p 11) (h12 : p 12) (h13 : p 13) (h14 : p 14) (h15 : p 15) (h16 : p 16) (h17 : p 17) : ∀ o, o < 18 → p o
  | 0, _ => h0 | 1, _ => h1 | 2, _ => h2 | 3, _ => h3 | 4, _ => h4 | 5, _ => h5 | 6, _ => h6 | 7, _ => h7 | 8, _ => h8 | 9, _ => h9 | 10, _ => h10 | 11, _ => h11 | 12, _ => h12 | 13, _ => h13 | 14, _ => h14 | 15, _ => h15 | 16, _ => h16 | 17, _ => h17
  | n + 18, h => by omega

/-- The first n cells of block b hold the words of g. -/
def Holds (w : World) (b n : Nat) (g : Nat → Int) : Prop := ∀ o, o < n → w.cell? ⟨b, o, none⟩ = some (.int .u16 (g o))
/-- No cell of block b is frozen. -/
def Loose (w : World) (b : Nat) : Prop := ∀ o, w.frozen? ⟨b, o, none⟩ = false

theorem Holds.congr {w : World} {b n : Nat} {g g' : Nat → Int} (h : Holds w b n g) (e : ∀ o, o < n → g o = g' o) : Holds w b n g' := fun o ho => by rw [h o ho, e o ho]
theorem Holds.set {w : World} {b n : Nat} {g : Nat → Int} (h : Holds w b n g) (x : Nat) (v : Int) (hx : x < n) : Holds (w.setCell ⟨b, x, none⟩ (.int .u16 v)) b n (fun o => if o = x then v else g o) := fun o ho => by
  show _ = some (Value.int .u16 (if o = x then v else g o))
  by_cases e : o = x
  · subst e; rw [if_pos rfl]; exact World.cell?_setCell_same _ _ _ (h o hx)
  · rw [if_neg e, World.cell?_setCell_other _ _ _ _ (by intro c; exact e (congrArg Addr.off c).symm)]; exact h o ho
theorem Holds.far {w : World} {b c n : Nat} {g : Nat → Int} (h : Holds w b n g) (x : Nat) (v : Value) (hb : c ≠ b) : Holds (w.setCell ⟨c, x, none⟩ v) b n g := fun o ho => by
  rw [World.cell?_setCell_other _ _ _ _ (by intro e; exact hb (congrArg Addr.block e))]; exact h o ho
theorem Holds.on {w w' : World} {b n : Nat} {g : Nat → Int} (h : Holds w b n g) (hb : Below w.heap.size w w') (hl : b < w.heap.size) : Holds w' b n g := fun o ho => (hb.cell (p := ⟨b, o, none⟩) hl).trans (h o ho)
theorem Holds.alloc {w : World} {b n : Nat} {g : Nat → Int} (h : Holds w b n g) (hl : b < w.heap.size) (z : Obj) : Holds (w.alloc z) b n g := fun o ho => (World.cell?_alloc_lt _ _ _ hl).trans (h o ho)
theorem Loose.set {w : World} {b : Nat} (h : Loose w b) (p : Addr) (v : Value) : Loose (w.setCell p v) b := fun o => by simp [h o]
theorem Loose.on {w w' : World} {b : Nat} (h : Loose w b) (hb : Below w.heap.size w w') (hl : b < w.heap.size) : Loose w' b := fun o => (hb.frozen (p := ⟨b, o, none⟩) hl).trans (h o)
end Go.Proofs.YtbbhppjamighdaaDoor
