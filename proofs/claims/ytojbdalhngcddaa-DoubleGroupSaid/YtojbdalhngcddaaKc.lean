/- A region that draws its order, whose first operations are quiet, one of which makes a variable at whatever time, and whose last ones (the store into that variable) come in one forced order: walked once. No Go in it. -/
import Derived.Test.YtojbdalhngcddaaKa
namespace Go.Proofs.Ytojbdalhngcddaa
set_option linter.unusedSimpArgs false
set_option linter.unusedVariables false
open Go.RowKit

/-- The worlds that hold on to all that W' holds. -/
def XC (W : World) : World → Prop := fun w' => ∃ u : Ext W, w' = u.w
theorem Ext.cell2 {W : World} (W' : Ext W) (u : Ext W'.w) (b o : Nat) (h : b < W.heap.size) : u.w.cell? ⟨b, o, none⟩ = W.cell? ⟨b, o, none⟩ := by
  rw [u.cell b o (Nat.lt_of_lt_of_le h W'.h.size), W'.cell b o h]

section
variable {P : Program} {ops : Array Oper} {md : Region.Mode} {W : World}

/-- One value, whatever worlds have come since W. -/
def YU (P : Program) (ops : Array Oper) (W : World) (o : Oper) (v : Value) (a : Act) : Prop := ∀ W' : Ext W, YieldsIn P ops (XC W'.w) o v a

theorem YU.of_same {o : Oper} {v : Value} {a a' : Act} (hy : YU P ops W o v a) (he : execOp a'.eval o = execOp a.eval o)
    (hw : Region.wanted o (yielded ops a'.tmps) = Region.wanted o (yielded ops a.tmps)) : YU P ops W o v a' := fun W' => (hy W').of_same he hw

/-- Operation i comes up; the one numbered n leaves the frame alone (in the model of the walk). -/
def uOp (P : Program) (ops : Array Oper) (W : World) (n i : Nat) (K : Act → Prop) (a : Act) : Prop :=
  if i = n then K a else match ops[i]? with
  | none => K a
  | some o => ∃ v, YU P ops W o v a ∧ K (a.put o.dst v)

theorem uOp_mono {n i : Nat} {a : Act} {K K' : Act → Prop} (h : ∀ a, K a → K' a) (hh : uOp P ops W n i K a) : uOp P ops W n i K' a := by
  unfold uOp at *
  by_cases e : i = n
  · rw [if_pos e] at *; exact h _ hh
  · rw [if_neg e] at *
    cases ho : ops[i]? with
    | none => simp only [ho] at hh ⊢; exact h _ hh
    | some o => simp only [ho] at hh ⊢; obtain ⟨v, h1, h2⟩ := hh; exact ⟨v, h1, h _ h2⟩

theorem uOp_put {n j : Nat} {oi oj : Oper} {v : Value} (hj : ops[j]? = some oj) (hap : oi.apart ops oj = true)
    (hsi : ∀ cs b, oi.op ≠ .select cs b) (hsj : ∀ cs b, oj.op ≠ .select cs b) {K : Act → Prop} {a : Act}
    (hy : YU P ops W oi v a) (h : uOp P ops W n j K (a.put oi.dst v)) :
    uOp P ops W n j (fun a' => YU P ops W oi v a' ∧ K (a'.put oi.dst v)) a := by
  obtain ⟨h1, h2, h3⟩ := Oper.apart_spec hap
  unfold uOp at *
  by_cases e : j = n
  · rw [if_pos e] at *; exact ⟨hy, h⟩
  · rw [if_neg e] at *
    simp only [hj] at *
    obtain ⟨u, hu, hk⟩ := h
    exact ⟨u, hu.of_same (execOp_put oj hsj a oi.dst v h1).symm (wanted_put oj a oi.dst v h1).symm, hy.of_same (execOp_put oi hsi a oj.dst u h3) (wanted_put oi a oj.dst u h3),
      by rw [← Act.put_comm a v u h2]; exact hk⟩

def headU (P : Program) (md : Region.Mode) (ops : Array Oper) (W : World) (n : Nat) (L : Array Bool → Act → Prop) : Nat → Array Bool → Act → Prop
  | 0, listed, a => L listed a
  | f + 1, listed, a =>
    Region.ready md ops listed ≠ [] ∧ ∀ i ∈ Region.ready md ops listed, i < n + 1 ∧ uOp P ops W n i (headU P md ops W n L f (listed.setIfInBounds i true)) a

/-- An operation that may come up may be taken first. -/
theorem headU_first {n i : Nat} {oi : Oper} {L : Array Bool → Act → Prop} (hi : ops[i]? = some oi) (hsel : ∀ (j : Nat) (o : Oper) cs b, ops[j]? = some o → o.op ≠ .select cs b)
    (hs : Region.sinkB md ops (n + 1) = true) (hc : Region.chainB md ops (n + 1) = true) (hn : n + 1 < ops.size) (hin : i < n + 1)
    (hdone : ∀ listed a, L listed a → ∀ j ∈ Region.ready md ops listed, n + 1 ≤ j) :
    ∀ (f : Nat) (listed : Array Bool) (a : Act) (v : Value), HeadInv md ops (n + 1) listed →
      (∀ j oj, ops[j]? = some oj → j ≠ i → listed.getD j true = false → (∀ e ∈ oj.after, Region.binds md e = true → e.on ≠ i) → oi.apart ops oj = true) →
      i ∈ Region.ready md ops listed → (i ≠ n → YU P ops W oi v a) →
      headU P md ops W n L f (listed.setIfInBounds i true) (if i = n then a else a.put oi.dst v) → headU P md ops W n L (f + 1) listed a := by
  intro f
  induction f with
  | zero =>
    intro listed a v inv _ hr hy H
    have hun := (mem_ready.1 hr).1
    refine ⟨fun h => (by rw [h] at hr; cases hr), fun j hj => ?_⟩
    have hjn : j < n + 1 := by
      rcases Nat.lt_or_ge j (n + 1) with h | h
      · exact h
      · exact absurd hj (tail_waits hs hc hn inv _ i rfl hin hun j h)
    refine ⟨hjn, ?_⟩
    by_cases hji : j = i
    · subst hji
      unfold uOp
      by_cases e : j = n
      · rw [if_pos e] at *; exact H
      · rw [if_neg e] at *; simp only [hi]; exact ⟨v, hy e, H⟩
    · have := hdone _ _ H j (ready_mono hj hji)
      omega
  | succ f ih =>
    intro listed a v inv hfree hr hy H
    have hun := (mem_ready.1 hr).1
    refine ⟨fun h => (by rw [h] at hr; cases hr), fun j hj => ?_⟩
    have hjn : j < n + 1 := by
      rcases Nat.lt_or_ge j (n + 1) with h | h
      · exact h
      · exact absurd hj (tail_waits hs hc hn inv _ i rfl hin hun j h)
    refine ⟨hjn, ?_⟩
    by_cases hji : j = i
    · subst hji
      unfold uOp
      by_cases e : j = n
      · rw [if_pos e] at *; exact H
      · rw [if_neg e] at *; simp only [hi]; exact ⟨v, hy e, H⟩
    · have h1 := (H.2 j (ready_mono hj hji)).2
      obtain ⟨hjun, oj, hoj, hall⟩ := mem_ready.1 hj
      have hnot : ∀ e ∈ oj.after, Region.binds md e = true → e.on ≠ i := fun e he hb heq => by
        have h1 := hall e he hb
        rw [heq, getD_both hun] at h1
        cases h1
      have hfree' : ∀ k ok, ops[k]? = some ok → k ≠ i → (listed.setIfInBounds j true).getD k true = false →
          (∀ e ∈ ok.after, Region.binds md e = true → e.on ≠ i) → oi.apart ops ok = true := fun k ok hk hki hun hno => by
        refine hfree k ok hk hki ?_ hno
        by_cases hjk : j = k
        · subst hjk; exact hjun
        · rw [getD_set_ne true hjk] at hun; exact hun
      by_cases e : i = n
      · rw [if_pos e] at H h1
        refine uOp_mono (fun a' h3 => ih (listed.setIfInBounds j true) a' v (inv.set hj hjn) hfree' (ready_mono hr (Ne.symm hji)) (fun h => absurd e h) ?_) h1
        rw [if_pos e, Array.setIfInBounds_comm _ _ hji]
        exact h3
      · rw [if_neg e] at H h1
        have h2 := uOp_put hoj (hfree j oj hoj hji hjun hnot) (fun cs b => hsel i oi cs b hi) (fun cs b => hsel j oj cs b hoj) (hy e) h1
        refine uOp_mono (fun a' h3 => ih (listed.setIfInBounds j true) a' v (inv.set hj hjn) hfree' (ready_mono hr (Ne.symm hji)) (fun _ => h3.1) ?_) h2
        rw [if_neg e, Array.setIfInBounds_comm _ _ hji]
        exact h3.2

/-- The walk in the order of the text. -/
def wpU (P : Program) (ops : Array Oper) (W : World) (n : Nat) (K : Act → Prop) : Nat → List Oper → Act → Prop
  | _, [], a => K a
  | k, o :: rest, a => if k = n then wpU P ops W n K (k + 1) rest a else ∃ v, YU P ops W o v a ∧ wpU P ops W n K (k + 1) rest (a.put o.dst v)

theorem headU_lex {n g : Nat} {Lq : Act → Prop} (hsel : Region.noSelect ops = true) (hs : Region.sinkB md ops (n + 1) = true) (hc : Region.chainB md ops (n + 1) = true) (hn : n + 1 < ops.size) :
    ∀ (l : List Oper) (k : Nat) (listed : Array Bool) (a : Act), (∀ j, j < l.length → l[j]? = ops[k + j]?) → k + l.length = n + 1 → HeadInv md ops (n + 1) listed →
    Region.lexHead md ops g l.length k listed = true → wpU P ops W n Lq k l a →
    headU P md ops W n (fun listed' a' => Region.seqB md ops g (n + 1) listed' = true ∧ Lq a') l.length listed a
  | [], k, listed, a, _, hk, _, hB, h => by
    have : k = n + 1 := by simpa using hk
    subst this
    exact ⟨by simpa [Region.lexHead] using hB, h⟩
  | o :: l, k, listed, a, hl, hk, inv, hB, h => by
    have h0 : ops[k]? = some o := by simpa using (hl 0 (by simp)).symm
    simp only [List.length_cons, Region.lexHead, Bool.and_eq_true] at hB
    obtain ⟨⟨hr, hf⟩, hB'⟩ := hB
    have hkn : k < n + 1 := by simp only [List.length_cons] at hk; omega
    have hr' : k ∈ Region.ready md ops listed := by simpa using hr
    have hrec := fun a' => headU_lex (Lq := Lq) hsel hs hc hn l (k + 1) (listed.setIfInBounds k true) a' (fun j hj => by have := hl (j + 1) (by simp; omega); simpa [Nat.add_assoc, Nat.add_comm 1 j] using this)
      (by simp only [List.length_cons] at hk; omega) (inv.set hr' hkn) hB'
    unfold wpU at h
    by_cases e : k = n
    · rw [if_pos e] at h
      exact headU_first h0 (Region.noSelect_spec hsel) hs hc hn hkn (fun listed' a' hL => seqB_ready hL.1) l.length listed a undef inv (Region.free_spec h0 hf) hr' (fun h => absurd e h) (by rw [if_pos e]; exact hrec _ h)
    · rw [if_neg e] at h
      obtain ⟨v, hy, hK⟩ := h
      exact headU_first h0 (Region.noSelect_spec hsel) hs hc hn hkn (fun listed' a' hL => seqB_ready hL.1) l.length listed a v inv (Region.free_spec h0 hf) hr' (fun _ => hy) (by rw [if_neg e]; exact hrec _ hK)

theorem Oper.wp_of_yields {C : World → Prop} {o : Oper} {v : Value} {a : Act} {K' : Act → World → Prop} {Q' : Exit → Act → World → Prop} {w : World} (hw : C w) (h1 : ∀ w, C w → o.quietAt P a C w v)
    (h : ∀ w', C w' → K' (a.put o.dst v) w') : o.wp P a w K' Q' :=
  Oper.wp_of_quiet (C := C) (K := fun a' => a' = a.put o.dst v) hw (fun a' w' hw' e => by rw [e]; exact h w' hw') ⟨v, h1, rfl⟩

theorem wpOp_of_yields {C : World → Prop} {i : Nat} {o : Oper} {v : Value} {a : Act} {K' : Act → World → Prop} {Q' : Exit → Act → World → Prop} {w : World} (hi : ops[i]? = some o) (hw : C w) (hy : YieldsIn P ops C o v a)
    (h : ∀ w', C w' → K' (a.put o.dst v) w') : wpOp P ops Q' i K' a w := by
  unfold wpOp
  simp only [hi]
  rcases hy with ⟨hwt, hv⟩ | ⟨hwt, rfl⟩
  · simp only [hwt, if_true]; exact .inl (Oper.wp_of_yields hw hv h)
  · simp only [hwt, Bool.false_eq_true, if_false]; exact h w hw

/-- Where the walk stands: nothing made yet, or the variable made, in block B. -/
def Stage (W : World) (Z : Obj) (t : Tmp) (n : Nat) (listed : Array Bool) (a r : Act) (w : World) : Prop :=
  (listed.getD n true = false ∧ r = a ∧ XC W w) ∨
  (listed.getD n true = true ∧ ∃ (W' : Ext W) (B : Nat), W.heap.size ≤ B ∧ B < W'.w.heap.size ∧ W'.w.heap[B]? = some Z ∧ r = a.put (some t) (.pointer (some ⟨B, 0, none⟩)) ∧ XC W'.w w)

theorem sim {n g : Nat} {Lq : Act → Prop} {Z : Obj} {t : Tmp} {al : Oper} {Q' : Exit → Act → World → Prop} (hn : ops[n]? = some al) (hdst : al.dst = some t) (hg : al.guard = none) (haf : al.after = #[])
    (hal : ∀ (a : Act) (w : World), (execOp a.eval al).run P w = .ok (.value (.pointer (some ⟨w.heap.size, 0, none⟩))) (w.alloc Z))
    (hsel : ∀ (j : Nat) (o : Oper) cs b, ops[j]? = some o → o.op ≠ .select cs b) (hap : ∀ i o, i < n → ops[i]? = some o → o.apart ops al = true)
    (hL : ∀ (W' : Ext W) (B : Nat) (listed : Array Bool) (a : Act) (w : World), W.heap.size ≤ B → B < W'.w.heap.size → W'.w.heap[B]? = some Z → XC W'.w w → Region.seqB md ops g (n + 1) listed = true → Lq a →
      wpAny P md ops Q' g listed (a.put (some t) (.pointer (some ⟨B, 0, none⟩))) w) :
    ∀ (f : Nat) (listed : Array Bool) (a r : Act) (w : World), listed.size = ops.size → Stage W Z t n listed a r w →
      headU P md ops W n (fun listed' a' => Region.seqB md ops g (n + 1) listed' = true ∧ Lq a') f listed a → wpAny P md ops Q' (f + g) listed r w
  | 0, listed, a, r, w, hsz, hst, h => by
    rw [Nat.zero_add]
    rcases hst with ⟨h1, _, _⟩ | ⟨_, W', B, hB0, hB1, hB2, rfl, hw⟩
    · exfalso
      have : n ∈ Region.ready md ops listed := mem_ready.2 ⟨h1, al, hn, fun e he => by rw [haf] at he; simp at he⟩
      have := seqB_ready h.1 n this
      omega
    · exact hL W' B listed a w hB0 hB1 hB2 hw h.1 h.2
  | f + 1, listed, a, r, w, hsz, hst, h => by
    rw [show f + 1 + g = (f + g) + 1 by omega]
    refine ⟨fun h0 => absurd h0 h.1, fun i hi => ?_⟩
    obtain ⟨hin, hu⟩ := h.2 i hi
    obtain ⟨hun, oi, hoi, _⟩ := mem_ready.1 hi
    have hsz' : (listed.setIfInBounds i true).size = ops.size := by simpa using hsz
    by_cases e : i = n
    · subst e
      have : oi = al := Option.some.inj (hoi.symm.trans hn)
      subst this
      unfold uOp at hu
      rw [if_pos rfl] at hu
      rcases hst with ⟨h1, rfl, u, rfl⟩ | ⟨h1, _⟩
      · unfold wpOp
        simp only [hn]
        have hwt : Region.wanted oi (yielded ops r.tmps) = true := by unfold Region.wanted; rw [hg]
        rw [if_pos hwt]
        refine .inl ?_
        unfold Oper.wp
        rw [hal]
        show wpAny P md ops Q' (f + g) (listed.setIfInBounds i true) (r.put oi.dst _) (u.w.alloc Z)
        rw [hdst]
        have hb : Below W.heap.size W (u.w.alloc Z) := u.h.alloc u.h.size Z
        refine sim hn hdst hg haf hal hsel hap hL f _ r _ _ hsz' (.inr ⟨?_, ⟨u.w.alloc Z, hb⟩, u.w.heap.size, u.h.size, by simp, ?_, rfl, ⟨_, Below.refl _ _⟩, rfl⟩) hu
        · have : i < ops.size := (Array.getElem?_eq_some_iff.1 hoi).1
          simp [hsz, this]
        · show (u.w.heap.push Z)[u.w.heap.size]? = some Z
          simp
      · rw [hun] at h1; cases h1
    · unfold uOp at hu
      rw [if_neg e] at hu
      simp only [hoi] at hu
      obtain ⟨v, hy, hk⟩ := hu
      have hln : (listed.setIfInBounds i true).getD n true = listed.getD n true := getD_set_ne true e
      rcases hst with ⟨h1, rfl, hw⟩ | ⟨h1, W', B, hB0, hB1, hB2, rfl, hw⟩
      · exact wpOp_of_yields (C := XC W) hoi hw (hy ⟨W, Below.refl _ _⟩) fun w' hw' => sim hn hdst hg haf hal hsel hap hL f _ _ _ _ hsz' (.inl ⟨hln.trans h1, rfl, hw'⟩) hk
      · obtain ⟨q1, q2, q3⟩ := Oper.apart_spec (hap i oi (by omega) hoi)
        rw [hdst] at q2 q3
        have hy' : YieldsIn P ops (XC W'.w) oi v (a.put (some t) (.pointer (some ⟨B, 0, none⟩))) :=
          (hy W').of_same (execOp_put oi (fun cs b => hsel i oi cs b hoi) a (some t) _ q3) (wanted_put oi a (some t) _ q3)
        refine wpOp_of_yields (C := XC W'.w) hoi hw hy' fun w' hw' => ?_
        exact sim hn hdst hg haf hal hsel hap hL f _ _ _ _ hsz' (.inr ⟨hln.trans h1, W', B, hB0, hB1, hB2, (Act.put_comm a v _ q2).symm, hw'⟩) hk

theorem put_other (a : Act) (x : Option Tmp) (v : Value) (d : Tmp) (h : x ≠ some d) : (a.put x v).tmps.getD d undef = a.tmps.getD d undef := by
  cases x with
  | none => rfl
  | some e =>
    have : e ≠ d := fun c => h (by rw [c])
    simp [Act.put, Array.getD_eq_getD_getElem?, Array.getElem?_setIfInBounds, this]
theorem put_same (a : Act) (v : Value) (d : Tmp) (h : d < a.tmps.size) : (a.put (some d) v).tmps.getD d undef = v := by
  simp [Act.put, Array.getD_eq_getD_getElem?, h]
theorem put_size (a : Act) (x : Option Tmp) (v : Value) : (a.put x v).tmps.size = a.tmps.size := by cases x <;> simp [Act.put]

theorem quiet_final {C : World → Prop} {A : Act} {d : Tmp} : ∀ (l : List Oper) (a : Act), (∀ o ∈ l, o.dst ≠ some d) → wpQuiet P ops C (fun a' => a' = A) l a → A.tmps.getD d undef = a.tmps.getD d undef
  | [], a, _, h => by rw [← (show a = A from h)]
  | o :: l, a, hd, h => by
    unfold wpQuiet at h
    have ho := hd o (by simp)
    have hl : ∀ p ∈ l, p.dst ≠ some d := fun p hp => hd p (by simp [hp])
    split at h
    · obtain ⟨v, _, hk⟩ := h
      rw [quiet_final l _ hl hk, put_other _ _ _ _ ho]
    · rw [quiet_final l _ hl h, put_other _ _ _ _ ho]

/-- Each operation writes a slot of its own. -/
def dstOK (m : Nat) : List Oper → Bool
  | [] => true
  | o :: r => (match o.dst with | some d => decide (d < m) && r.all (fun p => p.dst != some d) | none => false) && dstOK m r

theorem wpU_of {n m : Nat} {A : Act} : ∀ (l : List Oper) (k : Nat) (a : Act), k + l.length ≤ n → dstOK m l = true → a.tmps.size = m →
    (∀ W' : Ext W, wpQuiet P ops (XC W'.w) (fun a' => a' = A) l a) → wpU P ops W n (fun a' => a' = A) k l a
  | [], _, a, _, _, _, h => h ⟨W, Below.refl _ _⟩
  | o :: l, k, a, hk, hd, hsz, h => by
    have hk' : k + (l.length + 1) ≤ n := hk
    have hkn : k ≠ n := by omega
    unfold wpU
    rw [if_neg hkn]
    unfold dstOK at hd
    simp only [Bool.and_eq_true] at hd
    obtain ⟨hd1, hd2⟩ := hd
    cases hdst : o.dst with
    | none => rw [hdst] at hd1; cases hd1
    | some d =>
      rw [hdst] at hd1
      simp only [Bool.and_eq_true, decide_eq_true_eq, List.all_eq_true] at hd1
      obtain ⟨hdm, hdl⟩ := hd1
      have hl : ∀ p ∈ l, p.dst ≠ some d := fun p hp e => by have := hdl p hp; rw [e] at this; simp at this
      have hrec := fun v h' => wpU_of (n := n) (m := m) (A := A) l (k + 1) (a.put (some d) v) (by omega) hd2 (by rw [put_size]; exact hsz) h'
      by_cases hw : Region.wanted o (yielded ops a.tmps) = true
      · have hv : ∀ W' : Ext W, (∀ w, XC W'.w w → o.quietAt P a (XC W'.w) w (A.tmps.getD d undef)) ∧ wpQuiet P ops (XC W'.w) (fun a' => a' = A) l (a.put (some d) (A.tmps.getD d undef)) := fun W' => by
          have h0 := h W'
          unfold wpQuiet at h0
          rw [if_pos hw] at h0
          obtain ⟨v, h1, h2⟩ := h0
          rw [hdst] at h2
          have e : A.tmps.getD d undef = v := by rw [quiet_final l _ hl h2, put_same a v d (by rw [hsz]; exact hdm)]
          rw [e]
          exact ⟨h1, h2⟩
        exact ⟨_, fun W' => .inl ⟨hw, (hv W').1⟩, hrec _ fun W' => (hv W').2⟩
      · refine ⟨undef, fun W' => .inr ⟨by simpa using hw, rfl⟩, hrec _ fun W' => ?_⟩
        have h0 := h W'
        unfold wpQuiet at h0
        rw [if_neg hw, hdst] at h0
        exact h0

theorem wpU_snoc {n : Nat} {K : Act → Prop} {al : Oper} : ∀ (l : List Oper) (k : Nat) (a : Act), k + l.length = n → wpU P ops W n K k l a → wpU P ops W n K k (l ++ [al]) a
  | [], k, a, hk, h => by
    have : k = n := by simpa using hk
    subst this
    show wpU P ops W k K k [al] a
    unfold wpU
    rw [if_pos rfl]
    exact h
  | o :: l, k, a, hk, h => by
    have hkn : k ≠ n := by simp only [List.length_cons] at hk; omega
    show wpU P ops W n K k (o :: (l ++ [al])) a
    unfold wpU at h ⊢
    rw [if_neg hkn] at h ⊢
    obtain ⟨v, h1, h2⟩ := h
    exact ⟨v, h1, wpU_snoc l (k + 1) _ (by simp only [List.length_cons] at hk; omega) h2⟩
end

theorem wpAny_float {P : Program} {Q : Exit → Act → World → Prop} {a : Act} {w : World} {l : List Oper} (n m : Nat) (al : Oper) (t : Tmp) (Z : Obj)
    (hB : Region.lexTailB .any l.toArray (n + 1) = true) (hn : l[n]? = some al) (hdst : al.dst = some t) (hg : al.guard = none) (haf : al.after = #[])
    (hal : ∀ (a : Act) (w : World), (execOp a.eval al).run P w = .ok (.value (.pointer (some ⟨w.heap.size, 0, none⟩))) (w.alloc Z))
    (hap : ((l.take n).all fun o => o.apart l.toArray al) = true) (hd : dstOK m (l.take n) = true) (hsz : a.tmps.size = m) {A : Act}
    (h1 : ∀ W' : Ext w, wpQuiet P l.toArray (fun w' => ∃ u : Ext W'.w, w' = u.w) (fun a' => a' = A) (l.take n) a)
    (h2 : ∀ (B : Nat) (w' : World), Below w.heap.size w w' → w.heap.size ≤ B → B < w'.heap.size → w'.heap[B]? = some Z → wpList P l.toArray Q (l.drop (n + 1)) (A.put (some t) (.pointer (some ⟨B, 0, none⟩))) w') :
    wpAny P .any l.toArray Q l.toArray.size (Array.replicate l.toArray.size false) a { w with drawn := w.drawn + 1 } := by
  simp only [Region.lexTailB, Bool.and_eq_true, decide_eq_true_eq] at hB
  obtain ⟨⟨⟨⟨hsel, hn1⟩, hs⟩, hc⟩, hlex⟩ := hB
  have hn' : n + 1 < l.length := by simpa using hn1
  have htl : (l.take (n + 1)).length = n + 1 := by simp; omega
  have hdl : (l.drop (n + 1)).length = l.toArray.size - (n + 1) := by simp
  have hsplit : l.take (n + 1) = l.take n ++ [al] := by
    rw [List.take_add_one, hn]; rfl
  have inv0 : HeadInv .any l.toArray (n + 1) (Array.replicate l.toArray.size false) :=
    ⟨by simp, fun j oj _ hl => (by rw [getD_replicate_false] at hl; cases hl), fun t _ ht => getD_in (by simpa using ht) (getD_replicate_false _ _)⟩
  have hU := wpU_snoc (al := al) (l.take n) 0 a (by simp; omega) (wpU_of (W := w) (n := n) (m := m) (A := A) (l.take n) 0 a (by simp; omega) hd hsz h1)
  rw [← hsplit] at hU
  have H := headU_lex (md := .any) (g := l.toArray.size - (n + 1)) hsel hs hc hn1 (l.take (n + 1)) 0 _ a (fun j hj => by
    have hj' : j < n + 1 := by rw [htl] at hj; exact hj
    simp [hj']) (by simpa using htl) inv0 (by rw [htl]; exact hlex) hU
  have hnA : l.toArray[n]? = some al := by simpa using hn
  have := sim (P := P) (W := w) (Q' := Q) (Z := Z) (t := t) hnA hdst hg haf hal (Region.noSelect_spec hsel)
    (fun i o hi ho => by
      have h3 := List.all_eq_true.1 hap o (by
        refine List.mem_iff_getElem?.2 ⟨i, ?_⟩
        rw [List.getElem?_take, if_pos hi]
        simpa using ho)
      exact h3)
    (fun W' B listed a' w' hB0 hB1 hB2 ⟨u, hu⟩ hseq hA => by
      subst hu
      subst hA
      have hb := u.h
      have h3 := h2 B u.w (W'.h.trans (hb.mono W'.h.size)) hB0 (Nat.lt_of_lt_of_le hB1 hb.size) ((hb.block B hB1).trans hB2)
      have := wpAny_of_seq (md := .any) (Q' := Q) (l.drop (n + 1)) (n + 1) listed _ u.w (fun j => by simp [List.getElem?_drop]) (by rw [hdl]; exact hseq) h3
      rwa [hdl] at this)
    _ _ a a { w with drawn := w.drawn + 1 } (by simp) (.inl ⟨getD_in (by simp; omega) (getD_replicate_false _ _), rfl, ⟨_, (Below.refl _ _).drew⟩, rfl⟩) H
  rw [htl, show n + 1 + (l.toArray.size - (n + 1)) = l.toArray.size by omega] at this
  exact this
theorem wp_region_float {P : Program} {id : Nat} {Q : Exit → Act → World → Prop} {a : Act} {w : World} {l : List Oper} (n m : Nat) (al : Oper) (t : Tmp) (Z : Obj) (hm : P.follows .mixedOrders = true)
    (hB : Region.lexTailB .any l.toArray (n + 1) = true) (hn : l[n]? = some al) (hdst : al.dst = some t) (hg : al.guard = none) (haf : al.after = #[])
    (hal : ∀ (a : Act) (w : World), (execOp a.eval al).run P w = .ok (.value (.pointer (some ⟨w.heap.size, 0, none⟩))) (w.alloc Z))
    (hap : ((l.take n).all fun o => o.apart l.toArray al) = true) (hd : dstOK m (l.take n) = true) (hsz : a.tmps.size = m) {A : Act}
    (h1 : ∀ W' : Ext w, wpQuiet P l.toArray (fun w' => ∃ u : Ext W'.w, w' = u.w) (fun a' => a' = A) (l.take n) a)
    (h2 : ∀ (B : Nat) (w' : World), Below w.heap.size w w' → w.heap.size ≤ B → B < w'.heap.size → w'.heap[B]? = some Z → wpList P l.toArray Q (l.drop (n + 1)) (A.put (some t) (.pointer (some ⟨B, 0, none⟩))) w') :
    (Code.region id l.toArray true).wp P Q a w := wp_region_any hm (wpAny_float n m al t Z hB hn hdst hg haf hal hap hd hsz h1 h2)
theorem wp_region_floats {P : Program} {id : Nat} {Q : Exit → Act → World → Prop} {a : Act} {w : World} {l : List Oper} (n m : Nat) (al : Oper) (t : Tmp) (Z : Obj) (hm : P.follows .mixedOrders = true)
    (hB : Region.lexTailB .any l.toArray (n + 1) = true) (hn : l[n]? = some al) (hdst : al.dst = some t) (hg : al.guard = none) (haf : al.after = #[])
    (hal : ∀ (a : Act) (w : World), (execOp a.eval al).run P w = .ok (.value (.pointer (some ⟨w.heap.size, 0, none⟩))) (w.alloc Z))
    (hap : ((l.take n).all fun o => o.apart l.toArray al) = true) (hd : dstOK m (l.take n) = true) (hsz : a.tmps.size = m)
    (h : ∃ A : Act, (∀ W' : Ext w, wpQuiet P l.toArray (fun w' => ∃ u : Ext W'.w, w' = u.w) (fun a' => a' = A) (l.take n) a) ∧
      ∀ (B : Nat) (w' : World), Below w.heap.size w w' → w.heap.size ≤ B → B < w'.heap.size → w'.heap[B]? = some Z → wpList P l.toArray Q (l.drop (n + 1)) (A.put (some t) (.pointer (some ⟨B, 0, none⟩))) w') :
    (Code.region id l.toArray true).wp P Q a w := by
  obtain ⟨A, h1, h2⟩ := h
  exact wp_region_float n m al t Z hm hB hn hdst hg haf hal hap hd hsz h1 h2
theorem block_cell {w : World} {g : Nat} {cs : Array Value} {t : TypeId} {fr : Nat × Nat} (h : w.heap[g]? = some (.cells cs t fr)) (i : Nat) : w.cell? ⟨g, i, none⟩ = cs[i]? := by simp [World.cell?, h]
theorem block_free {w : World} {g : Nat} {cs : Array Value} {t : TypeId} (h : w.heap[g]? = some (.cells cs t (0, 0))) : ∀ i, w.frozen? ⟨g, i, none⟩ = false := fun i => by simp [World.frozen?, h]
end Go.Proofs.Ytojbdalhngcddaa
