/- Whole arrays out of and into blocks: the laws in the form in which the walks meet them. -/
import Derived.Test.YtbbhppjamighdaaDoorKe
import Derived.Test.YtbbhppjamighdaaDoorPc
import Derived.Test.YtbbhppjamighdaaDoorProg
import Derived.Deep.MidRow
import Derived.Deep.WholeRow
namespace Go.Proofs.YtbbhppjamighdaaDoor
set_option linter.unusedSimpArgs false
set_option linter.unusedVariables false
open Go.RowKit

section
variable {P : Program} {ops : Array Oper} {C : World → Prop} {Q : Act → Prop} {a : Act} {o : Oper} {rest : List Oper}
theorem wpQuiet_loadm (hg : o.guard = none) (ty : TypeId) (x : Operand) (ho : o.op = .load ty x) (b off : Nat) (hx : a.eval x = .pointer (some ⟨b, off, none⟩)) (cs : List Value) (d : TypeDesc)
    (hc : ∀ w, C w → w.rangeAt b off cs) (hu : P.underlying ty = some d) (hd : d.isRow = true) (hi : (P.info? ty).map (·.size) = some cs.length)
    (h : wpQuiet P ops C Q rest (a.put o.dst (.agg cs.toArray))) : wpQuiet P ops C Q (o :: rest) a := by
  refine BigFrame.wpQuiet_want (by simp [Region.wanted, hg]) fun K hK => ⟨_, fun w hw => ?_, hK _ h⟩
  unfold Oper.quietAt execOp
  simp only [ho, hx, Instr.loadAt, Instr.sureAddr, Sem.run_bind, Sem.run_pure, Result.andThen_ok, run_loadVar_mid w b off ty cs d (hc w hw) hu hd hi]
  exact ⟨rfl, rfl⟩
end

theorem results_one {P : Program} {fn : Func} {tmps : Array Value} {k : Nat} {t : TypeId} {ad : Addr} {v : Value} {w : World} (hr : fn.results = #[.cell k t]) (ha : tmps.getD k undef = .pointer (some ad))
    (hl : (loadVar t ad).run P w = .ok v w) : (results fn tmps).run P w = .ok v w := by
  unfold results
  rw [hr]
  have ha' : tmps[k]?.getD undef = .pointer (some ad) := by simpa using ha
  simp [ha', asAddr, hl]
theorem results_two {P : Program} {fn : Func} {tmps : Array Value} {k j : Nat} {t : TypeId} {ad : Addr} {v u : Value} {w : World} (hr : fn.results = #[.cell k t, .tmp j]) (ha : tmps.getD k undef = .pointer (some ad))
    (hj : tmps.getD j undef = u) (hl : (loadVar t ad).run P w = .ok v w) : (results fn tmps).run P w = .ok (.tuple #[v, u]) w := by
  unfold results
  rw [hr]
  have ha' : tmps[k]?.getD undef = .pointer (some ad) := by simpa using ha
  have hj' : tmps[j]?.getD undef = u := by simpa using hj
  simp [ha', hj', asAddr, hl]

theorem bl_cells {w : World} : ∀ (vs : List Value) (b o : Nat) (W : World), Below w.heap.size w W → w.heap.size ≤ b → Below w.heap.size w (W.setCells b o vs)
  | [], _, _, _, h, _ => h
  | v :: r, b, o, W, h, hb => bl_cells r b (o + 1) _ (bl_set h v hb) hb

theorem size_cells : ∀ (vs : List Value) (b o : Nat) (W : World), (W.setCells b o vs).heap.size = W.heap.size
  | [], _, _, _ => rfl
  | v :: r, b, o, W => by
    show ((W.setCell ⟨b, o, none⟩ v).setCells b (o + 1) r).heap.size = _
    rw [size_cells r b (o + 1) _, World.size_setCell]
theorem Holds.range6 {w : World} {b n : Nat} {g : Nat → Int} (h : Holds w b n g) (o : Nat) (ho : o + 6 ≤ n) : w.rangeAt b o [.int .u16 (g o), .int .u16 (g (o + 1)), .int .u16 (g (o + 2)), .int .u16 (g (o + 3)), .int .u16 (g (o + 4)), .int .u16 (g (o + 5))]
  | 0, _, hv => by cases hv; exact h _ (by omega)
  | 1, _, hv => by cases hv; exact h _ (by omega)
  | 2, _, hv => by cases hv; exact h _ (by omega)
  | 3, _, hv => by cases hv; exact h _ (by omega)
  | 4, _, hv => by cases hv; exact h _ (by omega)
  | 5, _, hv => by cases hv; exact h _ (by omega)
  | n + 6, _, hv => by simp at hv
theorem Holds.range18 {w : World} {b n : Nat} {g : Nat → Int} (h : Holds w b n g) (hn : 18 ≤ n) : w.rangeAt b 0 [.int .u16 (g 0), .int .u16 (g 1), .int .u16 (g 2), .int .u16 (g 3), .int .u16 (g 4), .int .u16 (g 5), .int .u16 (g 6), .int .u16 (g 7), .int .u16 (g 8), .int .u16 (g 9), .int .u16 (g 10), .int .u16 (g 11), .int .u16 (g 12), .int .u16 (g 13), .int .u16 (g 14), .int .u16 (g 15), .int .u16 (g 16), .int .u16 (g 17)]
  | 0, _, hv => by cases hv; exact h _ (by omega)
  | 1, _, hv => by cases hv; exact h _ (by omega)
  | 2, _, hv => by cases hv; exact h _ (by omega)
  | 3, _, hv => by cases hv; exact h _ (by omega)
  | 4, _, hv => by cases hv; exact h _ (by omega)
  | 5, _, hv => by cases hv; exact h _ (by omega)
  | 6, _, hv => by cases hv; exact h _ (by omega)
  | 7, _, hv => by cases hv; exact h _ (by omega)
  | 8, _, hv => by cases hv; exact h _ (by omega)
  | 9, _, hv => by cases hv; exact h _ (by omega)
  | 10, _, hv => by cases hv; exact h _ (by omega)
  | 11, _, hv => by cases hv; exact h _ (by omega)
  | 12, _, hv => by cases hv; exact h _ (by omega)
  | 13, _, hv => by cases hv; exact h _ (by omega)
  | 14, _, hv => by cases hv; exact h _ (by omega)
  | 15, _, hv => by cases hv; exact h _ (by omega)
  | 16, _, hv => by cases hv; exact h _ (by omega)
  | 17, _, hv => by cases hv; exact h _ (by omega)
  | n + 18, _, hv => by simp at hv
theorem holds_of18 {w : World} {b : Nat} {g : Nat → Int} (h : w.rangeAt b 0 [.int .u16 (g 0), .int .u16 (g 1), .int .u16 (g 2), .int .u16 (g 3), .int .u16 (g 4), .int .u16 (g 5), .int .u16 (g 6), .int .u16 (g 7), .int .u16 (g 8), .int .u16 (g 9), .int .u16 (g 10), .int .u16 (g 11), .int .u16 (g 12), .int .u16 (g 13), .int .u16 (g 14), .int .u16 (g 15), .int .u16 (g 16), .int .u16 (g 17)]) : Holds w b 18 g := fun o ho => by
  have key : ∀ o, o < 18 → w.cell? ⟨b, 0 + o, none⟩ = some (.int .u16 (g o)) := all18 (h 0 _ rfl) (h 1 _ rfl) (h 2 _ rfl) (h 3 _ rfl) (h 4 _ rfl) (h 5 _ rfl) (h 6 _ rfl) (h 7 _ rfl) (h 8 _ rfl) (h 9 _ rfl) (h 10 _ rfl) (h 11 _ rfl) (h 12 _ rfl) (h 13 _ rfl) (h 14 _ rfl) (h 15 _ rfl) (h 16 _ rfl) (h 17 _ rfl)
  have := key o ho
  rwa [Nat.zero_add] at this
theorem Loose.alloc {w : World} {b : Nat} (h : Loose w b) (hl : b < w.heap.size) (z : Obj) : Loose (w.alloc z) b := fun o => (World.frozen?_alloc_past _ _ _ hl).trans (h o)
theorem Holds.there {w : World} {b n : Nat} {g : Nat → Int} (h : Holds w b n g) (hl : Loose w b) (o k : Nat) (hk : o + k ≤ n) : w.there b o k := fun j hj => ⟨by rw [h _ (by omega)]; rfl, hl _⟩
theorem Holds.cells {w : World} {b n : Nat} {g : Nat → Int} (h : Holds w b n g) (o : Nat) (vs : List Int) (ho : o + vs.length ≤ n) :
    Holds (w.setCells b o (vs.map fun v => .int .u16 v)) b n (fun i => if i < o then g i else if h : i - o < vs.length then vs[i - o] else g i) := fun i hi => by
  show _ = some (Value.int .u16 (if i < o then g i else if h : i - o < vs.length then vs[i - o] else g i))
  by_cases c : i < o
  · rw [if_pos c, World.cell?_setCells_out _ _ _ _ _ (fun _ _ => .inl c)]; exact h i hi
  · rw [if_neg c]
    by_cases d : i - o < vs.length
    · rw [dif_pos d]
      have := World.cell?_setCells_in b (vs.map fun v => Value.int .u16 v) o w (fun j hj => by rw [h _ (by simp at hj; omega)]; rfl) (i - o) (by simpa using d)
      rw [show o + (i - o) = i by omega] at this
      rw [this]; simp
    · rw [dif_neg d, World.cell?_setCells_out _ _ _ _ _ (fun _ _ => .inr (by simp; show o + vs.length ≤ i; omega))]; exact h i hi
theorem Holds.apart {w : World} {b c n : Nat} {g : Nat → Int} (h : Holds w b n g) (o : Nat) (vs : List Value) (hb : b ≠ c) : Holds (w.setCells c o vs) b n g := fun i hi => by
  rw [World.cell?_setCells_out _ _ _ _ _ (fun e _ => absurd e hb)]; exact h i hi
theorem Loose.cells {w : World} {b : Nat} (h : Loose w b) (c o : Nat) (vs : List Value) : Loose (w.setCells c o vs) b := fun i => by rw [World.frozen?_setCells]; exact h i

theorem there_row {w : World} {b o k : Nat} {c : Array Value} {t : TypeId} (h : w.heap[b]? = some (.cells c t (0, 0))) (hk : o + k ≤ c.size) : w.there b o k := fun j hj => by
  constructor
  · rw [block_cell h (o + j), Array.getElem?_eq_getElem (by omega)]; rfl
  · exact block_free h (o + j)
theorem range_row {w : World} {b : Nat} {c : Array Value} {t : TypeId} {fr : Nat × Nat} (h : w.heap[b]? = some (.cells c t fr)) : w.rangeAt b 0 c.toList := fun j v hv => by
  rw [Nat.zero_add, block_cell h j]; simpa using hv
theorem range_on {w w' : World} {b o : Nat} {cs : List Value} (h : w.rangeAt b o cs) (hb : Below w.heap.size w w') (hl : b < w.heap.size) : w'.rangeAt b o cs := fun j v hv => (hb.cell (p := ⟨b, o + j, none⟩) hl).trans (h j v hv)
theorem there_on {w w' : World} {b o n : Nat} (h : w.there b o n) (hb : Below w.heap.size w w') (hl : b < w.heap.size) : w'.there b o n := fun j hj => by
  rw [hb.cell (p := ⟨b, o + j, none⟩) hl, hb.frozen (p := ⟨b, o + j, none⟩) hl]; exact h j hj
theorem there6 {w : World} {b : Nat} {v0 v1 v2 v3 v4 v5 : Value} (h0 : w.cell? ⟨b, 0, none⟩ = some v0) (h1 : w.cell? ⟨b, 1, none⟩ = some v1) (h2 : w.cell? ⟨b, 2, none⟩ = some v2) (h3 : w.cell? ⟨b, 3, none⟩ = some v3) (h4 : w.cell? ⟨b, 4, none⟩ = some v4) (h5 : w.cell? ⟨b, 5, none⟩ = some v5) (hf : Loose w b) : w.there b 0 6
  | 0, _ => ⟨by rw [h0]; rfl, hf _⟩ | 1, _ => ⟨by rw [h1]; rfl, hf _⟩ | 2, _ => ⟨by rw [h2]; rfl, hf _⟩ | 3, _ => ⟨by rw [h3]; rfl, hf _⟩ | 4, _ => ⟨by rw [h4]; rfl, hf _⟩ | 5, _ => ⟨by rw [h5]; rfl, hf _⟩
  | n + 6, h => by omega
theorem heap_new {w : World} {o : Obj} {b : Nat} (h : b = w.heap.size) : (w.alloc o).heap[b]? = some o := by subst h; exact heap_alloc_last w o
theorem heap_old {w : World} {o x : Obj} {b : Nat} (h : b < w.heap.size) (hx : w.heap[b]? = some x) : (w.alloc o).heap[b]? = some x := by
  show (w.heap.push o)[b]? = some x
  rw [Array.getElem?_push, if_neg (by omega), hx]
/-- Words by number. -/
def pick18 (a0 a1 a2 a3 a4 a5 a6 a7 a8 a9 a10 a11 a12 a13 a14 a15 a16 a17 : Int) : Nat → Int
  | 0 => a0
  | 1 => a1
  | 2 => a2
  | 3 => a3
  | 4 => a4
  | 5 => a5
  | 6 => a6
  | 7 => a7
  | 8 => a8
  | 9 => a9
  | 10 => a10
  | 11 => a11
  | 12 => a12
  | 13 => a13
  | 14 => a14
  | 15 => a15
  | 16 => a16
  | 17 => a17
  | _ => 0
theorem pick18_w {a0 a1 a2 a3 a4 a5 a6 a7 a8 a9 a10 a11 a12 a13 a14 a15 a16 a17 : Int} (h0 : W16 a0) (h1 : W16 a1) (h2 : W16 a2) (h3 : W16 a3) (h4 : W16 a4) (h5 : W16 a5) (h6 : W16 a6) (h7 : W16 a7) (h8 : W16 a8) (h9 : W16 a9) (h10 : W16 a10) (h11 : W16 a11) (h12 : W16 a12) (h13 : W16 a13) (h14 : W16 a14) (h15 : W16 a15) (h16 : W16 a16) (h17 : W16 a17) : ∀ o, W16 (pick18 a0 a1 a2 a3 a4 a5 a6 a7 a8 a9 a10 a11 a12 a13 a14 a15 a16 a17 o)
  | 0 => h0
  | 1 => h1
  | 2 => h2
  | 3 => h3
  | 4 => h4
  | 5 => h5
  | 6 => h6
  | 7 => h7
  | 8 => h8
  | 9 => h9
  | 10 => h10
  | 11 => h11
  | 12 => h12
  | 13 => h13
  | 14 => h14
  | 15 => h15
  | 16 => h16
  | 17 => h17
  | n + 18 => ⟨Int.le_refl _, by show (0 : Int) < 65536; omega⟩

theorem hu_mat : Tryd.prog.underlying 29 = some (.array 3 27) := by kernel_rfl
theorem hi_mat : (Tryd.prog.info? 29).map (·.size) = some 18 := by kernel_rfl
theorem hu_vec : Tryd.prog.underlying 27 = some (.array 3 25) := by kernel_rfl
theorem hi_vec : (Tryd.prog.info? 27).map (·.size) = some 6 := by kernel_rfl
end Go.Proofs.YtbbhppjamighdaaDoor
