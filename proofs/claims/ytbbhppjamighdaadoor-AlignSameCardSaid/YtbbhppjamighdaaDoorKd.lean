/- The same, where a result is taken out of a tuple at whatever time, behind the store too: such an operation may always be taken as soon as it may come. No Go in it. -/
import Derived.Test.YtbbhppjamighdaaDoorKc
namespace Go.Proofs.YtbbhppjamighdaaDoor
set_option linter.unusedSimpArgs false
set_option linter.unusedVariables false
open Go.RowKit

/-- The operation waits for one more. -/
def edged (o : Oper) (e : Nat) : Oper := { o with after := o.after.push ⟨e, .data⟩ }

section
variable {P : Program} {ops ops' : Array Oper} {Q : Exit → Act → World → Prop}

theorem wp_edged (o : Oper) (e : Nat) (a : Act) (w : World) (K : Act → World → Prop) : (edged o e).wp P a w K Q = o.wp P a w K Q := by cases o; rfl
theorem asks_edged (o : Oper) (e : Nat) (a : Act) (w : World) : (edged o e).asks P a w = o.asks P a w := by cases o; rfl

/-- ops' is ops, operation s waiting for e besides. -/
structure Late (ops ops' : Array Oper) (e s : Nat) : Prop where
  other : ∀ j, j ≠ s → ops'[j]? = ops[j]?
  at_s : ∃ os, ops[s]? = some os ∧ ops'[s]? = some (edged os e)
  deps : ∃ oe os, ops[e]? = some oe ∧ ops[s]? = some os ∧ ∀ x ∈ oe.after, Region.binds .any x = true → ∃ y ∈ os.after, Region.binds .any y = true ∧ y.on = x.on
  pure : ∃ oe t c, ops[e]? = some oe ∧ oe.op = .extract t c
  ne : e ≠ s
  free : ∀ oe, ops[e]? = some oe → ∀ j oj, ops[j]? = some oj → j ≠ e → (∀ x ∈ oj.after, Region.binds .any x = true → x.on ≠ e) → (∃ x ∈ oe.after, Region.binds .any x = true ∧ x.on = j) ∨ oe.apart ops oj = true
  nosel : ∀ (j : Nat) (o : Oper) cs b, ops[j]? = some o → o.op ≠ .select cs b

theorem Late.yielded {e s : Nat} (h : Late ops ops' e s) (t : Array Value) (j : Nat) : Go.yielded ops' t j = Go.yielded ops t j := by
  unfold Go.yielded
  by_cases hj : j = s
  · subst hj
    obtain ⟨os, h1, h2⟩ := h.at_s
    rw [h1, h2]; rfl
  · rw [h.other j hj]

theorem Late.wpOp {e s i : Nat} (h : Late ops ops' e s) {K K' : Act → World → Prop} {a : Act} {w : World} (hk : ∀ a w, K a w → K' a w) (hh : Go.wpOp P ops' Q i K a w) : Go.wpOp P ops Q i K' a w := by
  have hw : ∀ o : Oper, Region.wanted o (Go.yielded ops' a.tmps) = Region.wanted o (Go.yielded ops a.tmps) := fun o => by rw [show Go.yielded ops' a.tmps = Go.yielded ops a.tmps from funext (h.yielded a.tmps)]
  refine wpOp_mono hk ?_
  by_cases hi : i = s
  · subst hi
    obtain ⟨os, h1, h2⟩ := h.at_s
    unfold Go.wpOp at *
    simp only [h1, h2] at *
    rw [hw, wp_edged, asks_edged] at hh
    exact hh
  · unfold Go.wpOp at *
    rw [h.other i hi] at hh
    cases ho : ops[i]? with
    | none => simp only [ho] at hh ⊢; exact hh
    | some o => simp only [ho] at hh ⊢; rw [hw] at hh; exact hh

theorem yields_of_extract {o : Oper} {t : Operand} {c : Nat} (ho : o.op = .extract t c) {i : Nat} (hi : ops[i]? = some o) {K : Act → World → Prop} {a : Act} {w : World}
    (h : Go.wpOp P ops Q i K a w) (hna : ∀ w, ¬ o.asks P a w) : ∃ v, Yields P ops o v a ∧ K (a.put o.dst v) w := by
  unfold Go.wpOp at h
  simp only [hi] at h
  by_cases hw : Region.wanted o (Go.yielded ops a.tmps) = true
  · rw [if_pos hw] at h
    rcases h with h | h
    · have hr : ∀ w', (execOp a.eval o).run P w' = ((Instr.extract (a.eval t) c).run P w').andThen fun v w'' => .ok (.value v) w'' := fun w' => by
        unfold execOp; rw [ho]; simp
      unfold Oper.wp at h
      rw [hr] at h
      unfold Instr.extract at h hr
      cases hv : a.eval t <;> simp only [hv] at h hr <;> try (simp [stuck, Oper.upon] at h; done)
      rename_i vs
      cases hx : vs[c]? with
      | none => simp only [hx] at h; simp [stuck, Oper.upon] at h
      | some v =>
        simp only [hx] at h hr
        exact ⟨v, .inl ⟨hw, fun w' => by rw [hr]; simp⟩, by simpa [Oper.upon] using h⟩
    · exact absurd h.1 (hna w)
  · rw [if_neg hw] at h
    exact ⟨undef, .inr ⟨by simpa using hw, rfl⟩, h⟩

theorem wpAny_late {e s : Nat} (h : Late ops ops' e s) (hQ : ∀ c (a : Act) (d : Option Tmp) (v : Value) w, Q (.panic c) (a.put d v) w → Q (.panic c) a w)
    (hna : ∀ (o : Oper) t c, o.op = .extract t c → ∀ (a : Act) (w : World), ¬ o.asks P a w) :
    ∀ (f : Nat) (listed : Array Bool) (a : Act) (w : World), listed.size = ops.size → wpAny P .any ops' Q f listed a w → wpAny P .any ops Q f listed a w := by
  have hsub : ∀ listed j, j ∈ Region.ready .any ops' listed → j ∈ Region.ready .any ops listed := fun listed j hj => by
    obtain ⟨h1, o, h2, h3⟩ := mem_ready.1 hj
    by_cases e1 : j = s
    · subst e1
      obtain ⟨os, g1, g2⟩ := h.at_s
      have : o = edged os e := Option.some.inj (h2.symm.trans g2)
      subst this
      exact mem_ready.2 ⟨h1, os, g1, fun x hx hb => h3 x (by unfold edged; simp [hx]) hb⟩
    · exact mem_ready.2 ⟨h1, o, (h.other j e1).symm.trans h2, h3⟩
  -- what is ready in ops but not in ops': s alone, and then e is ready
  have hgap : ∀ listed : Array Bool, listed.size = ops.size → ∀ j, j ∈ Region.ready .any ops listed → j ∉ Region.ready .any ops' listed → j = s ∧ e ∈ Region.ready .any ops' listed := fun listed hsz j hj hn => by
    obtain ⟨h1, o, h2, h3⟩ := mem_ready.1 hj
    by_cases e1 : j = s
    · subst e1
      refine ⟨rfl, ?_⟩
      obtain ⟨os, g1, g2⟩ := h.at_s
      have : o = os := Option.some.inj (h2.symm.trans g1)
      subst this
      obtain ⟨oe, os', d1, d2, d3⟩ := h.deps
      have : os' = o := Option.some.inj (d2.symm.trans g1)
      subst this
      have he : listed.getD e true = false := by
        cases hl : listed.getD e true with
        | false => rfl
        | true =>
          exfalso
          apply hn
          refine mem_ready.2 ⟨h1, _, g2, fun x hx hb => ?_⟩
          unfold edged at hx
          simp only [Array.mem_push] at hx
          rcases hx with hx | rfl
          · exact h3 x hx hb
          · have h8 : e < ops.size := (Array.getElem?_eq_some_iff.1 d1).1
            have h9 : e < listed.size := by omega
            show listed.getD e false = true
            simp [h9] at hl ⊢
            exact hl
      refine mem_ready.2 ⟨he, oe, (h.other e h.ne).trans d1, fun x hx hb => ?_⟩
      obtain ⟨y, hy, hyb, hyo⟩ := d3 x hx hb
      rw [← hyo]
      exact h3 y hy hyb
    · exact absurd (mem_ready.2 ⟨h1, o, (h.other j e1).trans h2, h3⟩) hn
  intro f
  induction f with
  | zero =>
    intro listed a w hsz H
    refine ⟨?_, H.2⟩
    apply List.eq_nil_iff_forall_not_mem.2
    intro j hj
    have hn : j ∉ Region.ready .any ops' listed := by rw [H.1]; simp
    have := (hgap listed hsz j hj hn).2
    rw [H.1] at this
    cases this
  | succ f ih =>
    intro listed a w hsz H
    by_cases hall : ∀ j ∈ Region.ready .any ops listed, j ∈ Region.ready .any ops' listed
    · refine ⟨fun h0 => H.1 (List.eq_nil_iff_forall_not_mem.2 fun j hj => by have := hsub listed j hj; rw [h0] at this; cases this), fun i hi => ?_⟩
      exact h.wpOp (fun a w => ih _ a w (by simpa using hsz)) (H.2 i (hall i hi))
    · have : ∃ j, j ∈ Region.ready .any ops listed ∧ j ∉ Region.ready .any ops' listed := by
        apply Classical.byContradiction
        intro hno
        exact hall fun j hj => Classical.byContradiction fun hn => hno ⟨j, hj, hn⟩
      obtain ⟨j, hj, hn⟩ := this
      obtain ⟨rfl, he⟩ := hgap listed hsz j hj hn
      obtain ⟨oe, t, c, p1, p2⟩ := h.pure
      have H1 := h.wpOp (K' := wpAny P .any ops Q f (listed.setIfInBounds e true)) (fun a w => ih _ a w (by simpa using hsz)) (H.2 e he)
      obtain ⟨v, hy, hk⟩ := yields_of_extract p2 p1 H1 (hna oe t c p2 a)
      have her := hsub listed e he
      refine wpAny_first p1 h.nosel (fun c a w => hQ c a oe.dst v w) f listed a w (fun k ok hk1 hk2 hk3 hk4 => ?_) her hy hk
      rcases h.free oe p1 k ok hk1 hk2 hk4 with ⟨x, hx, hxb, hxo⟩ | h'
      · exfalso
        obtain ⟨_, o2, g2, g3⟩ := mem_ready.1 her
        have : o2 = oe := Option.some.inj (g2.symm.trans p1)
        subst this
        have := g3 x hx hxb
        rw [hxo, getD_both hk3] at this
        cases this
      · exact h'

theorem wpQuiet_ops {C : World → Prop} {K : Act → Prop} (hy : ∀ t j, Go.yielded ops' t j = Go.yielded ops t j) : ∀ (l : List Oper) (a : Act), wpQuiet P ops C K l a → wpQuiet P ops' C K l a
  | [], _, h => h
  | o :: l, a, h => by
    have hw : Region.wanted o (Go.yielded ops' a.tmps) = Region.wanted o (Go.yielded ops a.tmps) := by rw [show Go.yielded ops' a.tmps = Go.yielded ops a.tmps from funext (hy a.tmps)]
    unfold wpQuiet at h ⊢
    rw [hw]
    split
    · rename_i hc
      rw [if_pos hc] at h
      obtain ⟨v, h1, h2⟩ := h
      exact ⟨v, h1, wpQuiet_ops hy l _ h2⟩
    · rename_i hc
      rw [if_neg hc] at h
      exact wpQuiet_ops hy l _ h
theorem wpList_ops (hy : ∀ t j, Go.yielded ops' t j = Go.yielded ops t j) : ∀ (l : List Oper) (a : Act) (w : World), wpList P ops Q l a w → wpList P ops' Q l a w
  | [], _, _, h => h
  | o :: l, a, w, h => by
    have hw : Region.wanted o (Go.yielded ops' a.tmps) = Region.wanted o (Go.yielded ops a.tmps) := by rw [show Go.yielded ops' a.tmps = Go.yielded ops a.tmps from funext (hy a.tmps)]
    have e : wpList P ops' Q l = wpList P ops' Q l := rfl
    unfold wpList at h ⊢
    rw [hw]
    split
    · rename_i hc
      rw [if_pos hc] at h
      rcases h with h | h
      · exact .inl (Oper.wp_mono (fun a w hh => wpList_ops hy l a w hh) h)
      · exact .inr h
    · rename_i hc
      rw [if_neg hc] at h
      exact wpList_ops hy l _ _ h
theorem wpList_edged {o : Oper} {e : Nat} {l : List Oper} {a : Act} {w : World} (h : wpList P ops Q (o :: l) a w) : wpList P ops Q (edged o e :: l) a w := by
  unfold wpList at h ⊢
  rw [wp_edged, asks_edged]
  exact h

theorem extract_asks (o : Oper) (t : Operand) (c : Nat) (ho : o.op = .extract t c) (a : Act) (w : World) : ¬ o.asks P a w := by
  intro h
  have e : execOp a.eval o = (do let x ← Instr.extract (a.eval t) c; pure (.value x)) := by unfold execOp; rw [ho]
  have h1 : (Sem.runT P (execOp a.eval o) w #[]).2 = #[] := by
    rw [e]
    unfold Instr.extract
    cases hv : a.eval t <;> try rfl
    rename_i vs
    cases hx : vs[c]? with
    | none => simp only [hx]; rfl
    | some v => simp only [hx]; rfl
  have h2 := h.1
  rw [h1] at h2
  simp at h2

/-- What the kernel is asked. -/
def lateB (l : List Oper) (e s : Nat) : Bool :=
  match l[e]?, l[s]? with
  | some oe, some os =>
    (oe.after.toList.all fun x => !Region.binds .any x || os.after.toList.any fun y => Region.binds .any y && y.on == x.on) && (match oe.op with | .extract _ _ => true | _ => false) && decide (e ≠ s) &&
    (List.range l.length).all (fun j => j == e || Region.waitsFor .any l.toArray j e || Region.waitsFor .any l.toArray e j || (match l[j]? with | some oj => oe.apart l.toArray oj | none => true)) && Region.noSelect l.toArray
  | _, _ => false

theorem late_of {l : List Oper} {e s : Nat} {os : Oper} (hs : l[s]? = some os) (h : lateB l e s = true) : Late l.toArray (l.set s (edged os e)).toArray e s := by
  unfold lateB at h
  cases he : l[e]? with
  | none => rw [he] at h; simp at h
  | some oe =>
    rw [he, hs] at h
    simp only [Bool.and_eq_true, decide_eq_true_eq] at h
    obtain ⟨⟨⟨⟨h1, h2⟩, h3⟩, h4⟩, h5⟩ := h
    have hlt : s < l.length := (List.getElem?_eq_some_iff.1 hs).1
    refine ⟨fun j hj => by simp [List.getElem?_set, Ne.symm hj], ⟨os, by simpa using hs, by simp [List.getElem?_set, hlt]⟩, ⟨oe, os, by simpa using he, by simpa using hs, fun x hx hb => ?_⟩, ?_, h3, ?_, Region.noSelect_spec h5⟩
    · have := List.all_eq_true.1 h1 x (by simpa using hx)
      simp only [hb, Bool.not_true, Bool.false_or, List.any_eq_true, Bool.and_eq_true, beq_iff_eq] at this
      obtain ⟨y, hy, hyb, hyo⟩ := this
      exact ⟨y, by simpa using hy, hyb, hyo⟩
    · cases ho : oe.op <;> rw [ho] at h2 <;> simp at h2
      exact ⟨oe, _, _, by simpa using he, ho⟩
    · intro oe' hoe' j oj hj hne hno
      have : oe' = oe := by have := hoe'.symm.trans (show l.toArray[e]? = some oe by simpa using he); exact Option.some.inj this
      subst this
      have hjl : j < l.length := by have := (Array.getElem?_eq_some_iff.1 hj).1; simpa using this
      have := List.all_eq_true.1 h4 j (List.mem_range.2 hjl)
      simp only [Bool.or_eq_true, beq_iff_eq] at this
      rcases this with ((h6 | h6) | h6) | h6
      · exact absurd h6 hne
      · exfalso
        obtain ⟨o2, g1, x, g2, g3, g4⟩ := Region.waitsFor_spec h6
        have : o2 = oj := Option.some.inj (g1.symm.trans hj)
        subst this
        exact hno x g2 g3 g4
      · obtain ⟨o2, g1, x, g2, g3, g4⟩ := Region.waitsFor_spec h6
        have : o2 = oe' := Option.some.inj (g1.symm.trans hoe')
        subst this
        exact .inl ⟨x, g2, g3, g4⟩
      · have : l[j]? = some oj := by simpa using hj
        rw [this] at h6
        exact .inr h6
end

/-- n: the alloc; n - 1: the late operation; n + 1: the store. -/
theorem wp_region_floatl {P : Program} {id : Nat} {Q : Exit → Act → World → Prop} {a : Act} {w : World} {l : List Oper} (n e m : Nat) (al os : Oper) (tl : List Oper) (t : Tmp) (Z : Obj) (hm : P.follows .mixedOrders = true)
    (hos : l[n + 1]? = some os) (htl : l.drop (n + 1) = os :: tl) (hlate : lateB l e (n + 1) = true)
    (hB : Region.lexTailB .any (l.set (n + 1) (edged os e)).toArray (n + 1) = true) (hn : l[n]? = some al) (hdst : al.dst = some t) (hg : al.guard = none) (haf : al.after = #[])
    (hal : ∀ (a : Act) (w : World), (execOp a.eval al).run P w = .ok (.value (.pointer (some ⟨w.heap.size, 0, none⟩))) (w.alloc Z))
    (hQ : ∀ c (a : Act) (d : Option Tmp) (v : Value) w, Q (.panic c) (a.put d v) w → Q (.panic c) a w)
    (hap : (((l.set (n + 1) (edged os e)).take n).all fun o => o.apart (l.set (n + 1) (edged os e)).toArray al) = true) (hd : dstOK m (l.take n) = true) (hsz : a.tmps.size = m)
    (h : ∃ A : Act, (∀ W' : Ext w, wpQuiet P l.toArray (fun w' => ∃ u : Ext W'.w, w' = u.w) (fun a' => a' = A) (l.take n) a) ∧
      ∀ (B : Nat) (w' : World), Below w.heap.size w w' → w.heap.size ≤ B → B < w'.heap.size → w'.heap[B]? = some Z → wpList P l.toArray Q (os :: tl) (A.put (some t) (.pointer (some ⟨B, 0, none⟩))) w') :
    (Code.region id l.toArray true).wp P Q a w := by
  obtain ⟨A, h1, h2⟩ := h
  have L := late_of hos hlate
  have hy := L.yielded
  have htk : (l.set (n + 1) (edged os e)).take n = l.take n := by rw [List.take_set_of_le (by omega)]
  have hdr : (l.set (n + 1) (edged os e)).drop (n + 1) = edged os e :: tl := by
    have hlt : n + 1 < l.length := (List.getElem?_eq_some_iff.1 hos).1
    rw [List.drop_set, if_neg (by omega), htl]; simp
  have key : wpAny P .any (l.set (n + 1) (edged os e)).toArray Q (l.set (n + 1) (edged os e)).toArray.size (Array.replicate (l.set (n + 1) (edged os e)).toArray.size false) a { w with drawn := w.drawn + 1 } := by
    refine wpAny_float n m al t Z hB (by rw [List.getElem?_set_ne (by omega)]; exact hn) hdst hg haf hal hap (by rw [htk]; exact hd) hsz (A := A) ?_ ?_
    · intro W'
      rw [htk]
      exact wpQuiet_ops hy _ _ (h1 W')
    · intro B w' g1 g2 g3 g4
      rw [hdr]
      exact wpList_edged (wpList_ops hy _ _ _ (h2 B w' g1 g2 g3 g4))
  refine wp_region_any hm ?_
  have hsize : (l.set (n + 1) (edged os e)).toArray.size = l.toArray.size := by simp
  rw [hsize] at key
  exact wpAny_late L hQ (fun o t c ho a w => extract_asks o t c ho a w) _ _ _ _ (by simp) key
end Go.Proofs.YtbbhppjamighdaaDoor
