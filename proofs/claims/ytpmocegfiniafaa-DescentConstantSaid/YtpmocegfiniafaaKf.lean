/- Whole arrays out of and into blocks: the laws in the form in which the walks meet them. -/
import Derived.Test.YtpmocegfiniafaaKe
import Derived.Test.YtpmocegfiniafaaPc
import Derived.Test.YtpmocegfiniafaaProg
import Derived.Deep.MidRow
import Derived.Deep.WholeRow
namespace Go.Proofs.Ytpmocegfiniafaa
set_option linter.unusedSimpArgs false
set_option linter.unusedVariables false
open Go.RowKit

section
variable {P : Program} {ops : Array Oper} {C : World → Prop} {Q : Act → Prop} {a : Act} {o : Oper} {rest : List Oper}
end

theorem Loose.alloc {w : World} {b : Nat} (h : Loose w b) (hl : b < w.heap.size) (z : Obj) : Loose (w.alloc z) b := fun o => (World.frozen?_alloc_past _ _ _ hl).trans (h o)
theorem Holds.cells {w : World} {b n : Nat} {g : Nat → Int} (h : Holds w b n g) (o : Nat) (vs : List Int) (ho : o + vs.length ≤ n) :
    Holds (w.setCells b o (vs.map fun v => .int .u16 v)) b n (fun i => if i < o then g i else if h : i - o < vs.length then vs[i - o] else g i) := fun i hi => by
  show _ = some (Value.int .u16 (if i < o then g i else if h : i - o < vs.length then vs[i - o] else g i))
  by_cases c : i < o
  · rw [if_pos c, World.cell?_setCells_out _ _ _ _ _ (fun _ _ => .inl c)]; exact h i hi
  · rw [if_neg c]
    by_cases d : i - o < vs.length
    · rw [dif_pos d]
      have := World.cell?_setCells_in b (vs.map fun v => Value.int .u16 v) o w (fun j hj => by rw [h _ (by simp at hj; omega)]; rfl) (i - o) (by simpa using d)
      rw [show o + (i - o) = i by omega] at this
      rw [this]; simp
    · rw [dif_neg d, World.cell?_setCells_out _ _ _ _ _ (fun _ _ => .inr (by simp; show o + vs.length ≤ i; omega))]; exact h i hi
theorem Holds.apart {w : World} {b c n : Nat} {g : Nat → Int} (h : Holds w b n g) (o : Nat) (vs : List Value) (hb : b ≠ c) : Holds (w.setCells c o vs) b n g := fun i hi => by
  rw [World.cell?_setCells_out _ _ _ _ _ (fun e _ => absurd e hb)]; exact h i hi
theorem Loose.cells {w : World} {b : Nat} (h : Loose w b) (c o : Nat) (vs : List Value) : Loose (w.setCells c o vs) b := fun i => by rw [World.frozen?_setCells]; exact h i

end Go.Proofs.Ytpmocegfiniafaa
