/- The same as the floating alloc's law, where two results are taken out of a tuple at whatever time, behind the store too. No Go in it. -/
import Derived.Test.YtbbhppjamighdaaDoorKd
namespace Go.Proofs.YtbbhppjamighdaaDoor
set_option linter.unusedSimpArgs false
set_option linter.unusedVariables false
open Go.RowKit

/-- n: the alloc; e, f: the late operations; n + 1: the store. -/
theorem wp_region_floatl2 {P : Program} {id : Nat} {Q : Exit → Act → World → Prop} {a : Act} {w : World} {l : List Oper} (n e f m : Nat) (al os : Oper) (tl : List Oper) (t : Tmp) (Z : Obj) (hm : P.follows .mixedOrders = true)
    (hos : l[n + 1]? = some os) (htl : l.drop (n + 1) = os :: tl) (hlate : lateB l e (n + 1) = true) (hlate2 : lateB (l.set (n + 1) (edged os e)) f (n + 1) = true)
    (hB : Region.lexTailB .any (l.set (n + 1) (edged (edged os e) f)).toArray (n + 1) = true) (hn : l[n]? = some al) (hdst : al.dst = some t) (hg : al.guard = none) (haf : al.after = #[])
    (hal : ∀ (a : Act) (w : World), (execOp a.eval al).run P w = .ok (.value (.pointer (some ⟨w.heap.size, 0, none⟩))) (w.alloc Z))
    (hQ : ∀ c (a : Act) (d : Option Tmp) (v : Value) w, Q (.panic c) (a.put d v) w → Q (.panic c) a w)
    (hap : (((l.set (n + 1) (edged (edged os e) f)).take n).all fun o => o.apart (l.set (n + 1) (edged (edged os e) f)).toArray al) = true) (hd : dstOK m (l.take n) = true) (hsz : a.tmps.size = m)
    (h : ∃ A : Act, (∀ W' : Ext w, wpQuiet P l.toArray (fun w' => ∃ u : Ext W'.w, w' = u.w) (fun a' => a' = A) (l.take n) a) ∧
      ∀ (B : Nat) (w' : World), Below w.heap.size w w' → w.heap.size ≤ B → B < w'.heap.size → w'.heap[B]? = some Z → wpList P l.toArray Q (os :: tl) (A.put (some t) (.pointer (some ⟨B, 0, none⟩))) w') :
    (Code.region id l.toArray true).wp P Q a w := by
  obtain ⟨A, h1, h2⟩ := h
  have L1 := late_of hos hlate
  have hlt : n + 1 < l.length := (List.getElem?_eq_some_iff.1 hos).1
  have hos1 : (l.set (n + 1) (edged os e))[n + 1]? = some (edged os e) := by simp [List.getElem?_set, hlt]
  have L2 := late_of hos1 hlate2
  rw [List.set_set] at L2
  have hy : ∀ t j, Go.yielded (l.set (n + 1) (edged (edged os e) f)).toArray t j = Go.yielded l.toArray t j := fun t j => (L2.yielded t j).trans (L1.yielded t j)
  have htk : (l.set (n + 1) (edged (edged os e) f)).take n = l.take n := by rw [List.take_set_of_le (by omega)]
  have hdr : (l.set (n + 1) (edged (edged os e) f)).drop (n + 1) = edged (edged os e) f :: tl := by
    rw [List.drop_set, if_neg (by omega), htl]; simp
  have key : wpAny P .any (l.set (n + 1) (edged (edged os e) f)).toArray Q (l.set (n + 1) (edged (edged os e) f)).toArray.size (Array.replicate (l.set (n + 1) (edged (edged os e) f)).toArray.size false) a { w with drawn := w.drawn + 1 } := by
    refine wpAny_float n m al t Z hB (by rw [List.getElem?_set_ne (by omega)]; exact hn) hdst hg haf hal hap (by rw [htk]; exact hd) hsz (A := A) ?_ ?_
    · intro W'
      rw [htk]
      exact wpQuiet_ops hy _ _ (h1 W')
    · intro B w' g1 g2 g3 g4
      rw [hdr]
      exact wpList_edged (wpList_edged (wpList_ops hy _ _ _ (h2 B w' g1 g2 g3 g4)))
  refine wp_region_any hm ?_
  have hsize : (l.set (n + 1) (edged (edged os e) f)).toArray.size = l.toArray.size := by simp
  rw [hsize] at key
  have k1 := wpAny_late L2 hQ (fun o t c ho a w => extract_asks o t c ho a w) _ _ _ _ (by simp) key
  exact wpAny_late L1 hQ (fun o t c ho a w => extract_asks o t c ho a w) _ _ _ _ (by simp) k1
end Go.Proofs.YtbbhppjamighdaaDoor
