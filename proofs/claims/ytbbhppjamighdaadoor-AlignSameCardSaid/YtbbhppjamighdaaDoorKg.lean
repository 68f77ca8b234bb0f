/- A law's own variables: each in a block of its own, known by its range; a store into a new one keeps the others. -/
import Derived.Test.YtbbhppjamighdaaDoorKf
namespace Go.Proofs.YtbbhppjamighdaaDoor
set_option linter.unusedSimpArgs false
set_option linter.unusedVariables false
open Go.RowKit

section
variable {P : Program} {C : World → Prop} {K : Act → Prop} {a : Act} {op : Oper}
theorem quiet_loadq (ty : TypeId) (x : Operand) (ho : op.op = .load ty x) (b off : Nat) (hx : a.eval x = .pointer (some ⟨b, off, none⟩)) (cs : List Value) (d : TypeDesc)
    (hc : ∀ w, C w → w.rangeAt b off cs) (hu : P.underlying ty = some d) (hd : d.isRow = true) (hi : (P.info? ty).map (·.size) = some cs.length)
    (h : K (a.put op.dst (.agg cs.toArray))) : op.quiet P a C K := by
  refine ⟨_, fun w hw => ?_, h⟩
  unfold Oper.quietAt execOp
  simp only [ho, hx, Instr.loadAt, Instr.sureAddr, Sem.run_bind, Sem.run_pure, Result.andThen_ok, run_loadVar_mid w b off ty cs d (hc w hw) hu hd hi]
  exact ⟨rfl, rfl⟩
end
/-- The goals of a walk behind a name that is not unfolded: an arm that is not meant fails at once. -/
structure QW (P : Program) (op : Oper) (a : Act) (C : World → Prop) (K : Act → Prop) : Prop where
  h : op.quiet P a C K
structure WL (P : Program) (ops : Array Oper) (Q : Exit → Act → World → Prop) (l : List Oper) (a : Act) (w : World) : Prop where
  h : wpList P ops Q l a w
section
variable {P : Program} {C : World → Prop} {K : Act → Prop} {a : Act} {op : Oper} {ops : Array Oper} {Q : Exit → Act → World → Prop} {rest : List Oper} {w : World}
theorem qw_load (ty : TypeId) (x : Operand) (ho : op.op = .load ty x) (b off : Nat) (hx : a.eval x = .pointer (some ⟨b, off, none⟩)) (cs : List Value) (d : TypeDesc)
    (hc : ∀ w, C w → w.rangeAt b off cs) (hu : P.underlying ty = some d) (hd : d.isRow = true) (hi : (P.info? ty).map (·.size) = some cs.length)
    (h : K (a.put op.dst (.agg cs.toArray))) : QW P op a C K := ⟨quiet_loadq ty x ho b off hx cs d hc hu hd hi h⟩
theorem wl_load (hgd : op.guard = none) (ty : TypeId) (x : Operand) (ho : op.op = .load ty x) (b o : Nat) (hx : a.eval x = .pointer (some ⟨b, o, none⟩)) (cs : List Value) (d : TypeDesc) (hc : w.rangeAt b o cs)
    (hu : P.underlying ty = some d) (hd : d.isRow = true) (hi : (P.info? ty).map (·.size) = some cs.length)
    (h : wpList P ops Q rest (a.put op.dst (.agg cs.toArray)) w) : WL P ops Q (op :: rest) a w := ⟨wpList_load_mid hgd ty x ho b o hx cs d hc hu hd hi h⟩
theorem wl_gen (F : World → Prop) (h1 : F w) (h : ∀ w', F w' → wpList P ops Q (op :: rest) a w') : WL P ops Q (op :: rest) a w := ⟨h w h1⟩
theorem wl_store (hgd : op.guard = none) (ty : TypeId) (x y : Operand) (ho : op.op = .store ty x y) (b o : Nat) (cells : Array Value) (hx : a.eval x = .pointer (some ⟨b, o, none⟩)) (hy : a.eval y = .agg cells)
    (ht : w.there b o cells.size) (hi : (P.info? ty).map (·.size) = some cells.size) (h1 : cells.all (·.oneCell') = true)
    (h : wpList P ops Q rest (a.put op.dst undef) (w.setCells b o cells.toList)) : WL P ops Q (op :: rest) a w := ⟨wpList_store_mid hgd ty x y ho b o cells hx hy ht hi h1 h⟩
end
theorem there_new {W : World} {c : Array Value} {t : TypeId} {k : Nat} (hk : k ≤ c.size) : (W.alloc (.cells c t)).there W.heap.size 0 k := there_row (c := c) (t := t) (heap_new rfl) (by omega)
theorem range_alloc {W : World} {b : Nat} {cs : List Value} {z : Obj} (h : W.rangeAt b 0 cs) (hb : b < W.heap.size) : (W.alloc z).rangeAt b 0 cs := fun j v hv => (World.cell?_alloc_lt _ _ _ hb).trans (h j v hv)
theorem range_store {W : World} {b : Nat} {cs vs : List Value} {z : Obj} (h : W.rangeAt b 0 cs) (hb : b < W.heap.size) : ((W.alloc z).setCells W.heap.size 0 vs).rangeAt b 0 cs := by
  refine World.rangeAt_setCells_apart (fun j v hv => ?_) _ _ _ (.inl (by omega))
  exact (World.cell?_alloc_lt _ _ _ hb).trans (h j v hv)
theorem range_here {W : World} {c : Array Value} {t : TypeId} {vs : List Value} (hk : vs.length ≤ c.size) : ((W.alloc (.cells c t)).setCells W.heap.size 0 vs).rangeAt W.heap.size 0 vs := World.rangeAt_setCells_same _ _ _ _ (there_new hk)
theorem size_store {W : World} {z : Obj} {b o : Nat} {vs : List Value} : ((W.alloc z).setCells b o vs).heap.size = W.heap.size + 1 := by rw [size_cells, World.size_alloc]
theorem range_ext {W : World} {b o : Nat} {cs : List Value} (h : W.rangeAt b o cs) (hb : b < W.heap.size) : ∀ w, (∃ u : Ext W, w = u.w) → w.rangeAt b o cs := by rintro _ ⟨u, rfl⟩; exact range_on h u.h hb
theorem range_ext2 {W : World} {b o : Nat} {cs : List Value} (h : W.rangeAt b o cs) (hb : b < W.heap.size) (W' : Ext W) : ∀ w, (∃ u : Ext W'.w, w = u.w) → w.rangeAt b o cs := by
  rintro _ ⟨u, rfl⟩; exact range_on (range_on h W'.h hb) u.h (Nat.lt_of_lt_of_le hb W'.h.size)
theorem there18 {w : World} {b : Nat} {g : Nat → Value} (h : ∀ i, i < 18 → w.cell? ⟨b, i, none⟩ = some (g i)) (hf : Loose w b) : w.there b 0 18 := fun j hj => ⟨by rw [Nat.zero_add, h j hj]; rfl, by rw [Nat.zero_add]; exact hf j⟩
theorem hu_dbl : Tryd.prog.underlying 25 = some (.array 2 23) := by kernel_rfl
theorem hi_dbl : (Tryd.prog.info? 25).map (·.size) = some 2 := by kernel_rfl
end Go.Proofs.YtbbhppjamighdaaDoor
