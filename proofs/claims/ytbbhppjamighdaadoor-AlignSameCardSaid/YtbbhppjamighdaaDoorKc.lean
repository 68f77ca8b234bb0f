/- A region that draws its order, whose first operations are quiet, one of which makes a variable at whatever time, and whose last ones (the store into that variable) come in one forced order: walked once. No Go in it. -/
import Derived.Test.YtbbhppjamighdaaDoorKa
namespace Go.Proofs.YtbbhppjamighdaaDoor
set_option linter.unusedSimpArgs false
set_option linter.unusedVariables false
open Go.RowKit

/-- The worlds that hold on to all that W' holds. -/
def XC (W : World) : World → Prop := fun w' => ∃ u : Ext W, w' = u.w
theorem Ext.cell2 {W : World} (W' : Ext W) (u : Ext W'.w) (b o : Nat) (h : b < W.heap.size) : u.w.cell? ⟨b, o, none⟩ = W.cell? ⟨b, o, none⟩ := by
  rw [u.cell b o (Nat.lt_of_lt_of_le h W'.h.size), W'.cell b o h]

section
variable {P : Program} {ops : Array Oper} {md : Region.Mode} {W : World}

/-- One value, whatever worlds have come since W. -/
def YU (P : Program) (ops : Array Oper) (W : World) (o : Oper) (v : Value) (a : Act) : Prop := ∀ W' : Ext W, YieldsIn P ops (XC W'.w) o v a

theorem YU.of_same {o : Oper} {v : Value} {a a' : Act} (hy : YU P ops W o v a) (he : execOp a'.eval o = execOp a.eval o)
    (hw : Region.wanted o (yielded ops a'.tmps) = Region.wanted o (yielded ops a.tmps)) : YU P ops W o v a' := fun W' => (hy W').of_same he hw

/-- Operation i comes up; those from number n on leave the frame alone (in the model of the walk). -/
def uOp (P : Program) (ops : Array Oper) (W : World) (n i : Nat) (K : Act → Prop) (a : Act) : Prop :=
  if n ≤ i then K a else match ops[i]? with
  | none => K a
  | some o => ∃ v, YU P ops W o v a ∧ K (a.put o.dst v)

theorem uOp_mono {n i : Nat} {a : Act} {K K' : Act → Prop} (h : ∀ a, K a → K' a) (hh : uOp P ops W n i K a) : uOp P ops W n i K' a := by
  unfold uOp at *
  by_cases e : n ≤ i
  · rw [if_pos e] at *; exact h _ hh
  · rw [if_neg e] at *
    cases ho : ops[i]? with
    | none => simp only [ho] at hh ⊢; exact h _ hh
    | some o => simp only [ho] at hh ⊢; obtain ⟨v, h1, h2⟩ := hh; exact ⟨v, h1, h _ h2⟩

theorem uOp_put {n j : Nat} {oi oj : Oper} {v : Value} (hj : ops[j]? = some oj) (hap : oi.apart ops oj = true)
    (hsi : ∀ cs b, oi.op ≠ .select cs b) (hsj : ∀ cs b, oj.op ≠ .select cs b) {K : Act → Prop} {a : Act}
    (hy : YU P ops W oi v a) (h : uOp P ops W n j K (a.put oi.dst v)) :
    uOp P ops W n j (fun a' => YU P ops W oi v a' ∧ K (a'.put oi.dst v)) a := by
  obtain ⟨h1, h2, h3⟩ := Oper.apart_spec hap
  unfold uOp at *
  by_cases e : n ≤ j
  · rw [if_pos e] at *; exact ⟨hy, h⟩
  · rw [if_neg e] at *
    simp only [hj] at *
    obtain ⟨u, hu, hk⟩ := h
    exact ⟨u, hu.of_same (execOp_put oj hsj a oi.dst v h1).symm (wanted_put oj a oi.dst v h1).symm, hy.of_same (execOp_put oi hsi a oj.dst u h3) (wanted_put oi a oj.dst u h3),
      by rw [← Act.put_comm a v u h2]; exact hk⟩

def headU (P : Program) (md : Region.Mode) (ops : Array Oper) (W : World) (n N : Nat) (L : Array Bool → Act → Prop) : Nat → Array Bool → Act → Prop
  | 0, listed, a => L listed a
  | f + 1, listed, a =>
    Region.ready md ops listed ≠ [] ∧ ∀ i ∈ Region.ready md ops listed, i < N ∧ uOp P ops W n i (headU P md ops W n N L f (listed.setIfInBounds i true)) a

/-- An operation that may come up may be taken first. -/
theorem headU_first {n N i : Nat} {oi : Oper} {L : Array Bool → Act → Prop} (hi : ops[i]? = some oi) (hsel : ∀ (j : Nat) (o : Oper) cs b, ops[j]? = some o → o.op ≠ .select cs b)
    (hs : Region.sinkB md ops N = true) (hc : Region.chainB md ops N = true) (hn : N < ops.size) (hin : i < N)
    (hdone : ∀ listed a, L listed a → ∀ j ∈ Region.ready md ops listed, N ≤ j) :
    ∀ (f : Nat) (listed : Array Bool) (a : Act) (v : Value), HeadInv md ops N listed →
      (∀ j oj, ops[j]? = some oj → j ≠ i → listed.getD j true = false → (∀ e ∈ oj.after, Region.binds md e = true → e.on ≠ i) → oi.apart ops oj = true) →
      i ∈ Region.ready md ops listed → (¬ n ≤ i → YU P ops W oi v a) →
      headU P md ops W n N L f (listed.setIfInBounds i true) (if n ≤ i then a else a.put oi.dst v) → headU P md ops W n N L (f + 1) listed a := by
  intro f
  induction f with
  | zero =>
    intro listed a v inv _ hr hy H
    have hun := (mem_ready.1 hr).1
    refine ⟨fun h => (by rw [h] at hr; cases hr), fun j hj => ?_⟩
    have hjn : j < N := by
      rcases Nat.lt_or_ge j N with h | h
      · exact h
      · exact absurd hj (tail_waits hs hc hn inv _ i rfl hin hun j h)
    refine ⟨hjn, ?_⟩
    by_cases hji : j = i
    · subst hji
      unfold uOp
      by_cases e : n ≤ j
      · rw [if_pos e] at *; exact H
      · rw [if_neg e] at *; simp only [hi]; exact ⟨v, hy e, H⟩
    · have := hdone _ _ H j (ready_mono hj hji)
      omega
  | succ f ih =>
    intro listed a v inv hfree hr hy H
    have hun := (mem_ready.1 hr).1
    refine ⟨fun h => (by rw [h] at hr; cases hr), fun j hj => ?_⟩
    have hjn : j < N := by
      rcases Nat.lt_or_ge j N with h | h
      · exact h
      · exact absurd hj (tail_waits hs hc hn inv _ i rfl hin hun j h)
    refine ⟨hjn, ?_⟩
    by_cases hji : j = i
    · subst hji
      unfold uOp
      by_cases e : n ≤ j
      · rw [if_pos e] at *; exact H
      · rw [if_neg e] at *; simp only [hi]; exact ⟨v, hy e, H⟩
    · have h1 := (H.2 j (ready_mono hj hji)).2
      obtain ⟨hjun, oj, hoj, hall⟩ := mem_ready.1 hj
      have hnot : ∀ e ∈ oj.after, Region.binds md e = true → e.on ≠ i := fun e he hb heq => by
        have h1 := hall e he hb
        rw [heq, getD_both hun] at h1
        cases h1
      have hfree' : ∀ k ok, ops[k]? = some ok → k ≠ i → (listed.setIfInBounds j true).getD k true = false →
          (∀ e ∈ ok.after, Region.binds md e = true → e.on ≠ i) → oi.apart ops ok = true := fun k ok hk hki hun hno => by
        refine hfree k ok hk hki ?_ hno
        by_cases hjk : j = k
        · subst hjk; exact hjun
        · rw [getD_set_ne true hjk] at hun; exact hun
      by_cases e : n ≤ i
      · rw [if_pos e] at H h1
        refine uOp_mono (fun a' h3 => ih (listed.setIfInBounds j true) a' v (inv.set hj hjn) hfree' (ready_mono hr (Ne.symm hji)) (fun h => absurd e h) ?_) h1
        rw [if_pos e, Array.setIfInBounds_comm _ _ hji]
        exact h3
      · rw [if_neg e] at H h1
        have h2 := uOp_put hoj (hfree j oj hoj hji hjun hnot) (fun cs b => hsel i oi cs b hi) (fun cs b => hsel j oj cs b hoj) (hy e) h1
        refine uOp_mono (fun a' h3 => ih (listed.setIfInBounds j true) a' v (inv.set hj hjn) hfree' (ready_mono hr (Ne.symm hji)) (fun _ => h3.1) ?_) h2
        rw [if_neg e, Array.setIfInBounds_comm _ _ hji]
        exact h3.2

/-- The walk in the order of the text. -/
def wpU (P : Program) (ops : Array Oper) (W : World) (n : Nat) (K : Act → Prop) : Nat → List Oper → Act → Prop
  | _, [], a => K a
  | k, o :: rest, a => if n ≤ k then wpU P ops W n K (k + 1) rest a else ∃ v, YU P ops W o v a ∧ wpU P ops W n K (k + 1) rest (a.put o.dst v)

theorem headU_lex {n N g : Nat} {Lq : Act → Prop} (hsel : Region.noSelect ops = true) (hs : Region.sinkB md ops N = true) (hc : Region.chainB md ops N = true) (hn : N < ops.size) :
    ∀ (l : List Oper) (k : Nat) (listed : Array Bool) (a : Act), (∀ j, j < l.length → l[j]? = ops[k + j]?) → k + l.length = N → HeadInv md ops N listed →
    Region.lexHead md ops g l.length k listed = true → wpU P ops W n Lq k l a →
    headU P md ops W n N (fun listed' a' => Region.seqB md ops g N listed' = true ∧ Lq a') l.length listed a
  | [], k, listed, a, _, hk, _, hB, h => by
    have : k = N := by simpa using hk
    subst this
    exact ⟨by simpa [Region.lexHead] using hB, h⟩
  | o :: l, k, listed, a, hl, hk, inv, hB, h => by
    have h0 : ops[k]? = some o := by simpa using (hl 0 (by simp)).symm
    simp only [List.length_cons, Region.lexHead, Bool.and_eq_true] at hB
    obtain ⟨⟨hr, hf⟩, hB'⟩ := hB
    have hkn : k < N := by simp only [List.length_cons] at hk; omega
    have hr' : k ∈ Region.ready md ops listed := by simpa using hr
    have hrec := fun a' => headU_lex (n := n) (Lq := Lq) hsel hs hc hn l (k + 1) (listed.setIfInBounds k true) a' (fun j hj => by have := hl (j + 1) (by simp; omega); simpa [Nat.add_assoc, Nat.add_comm 1 j] using this)
      (by simp only [List.length_cons] at hk; omega) (inv.set hr' hkn) hB'
    unfold wpU at h
    by_cases e : n ≤ k
    · rw [if_pos e] at h
      exact headU_first h0 (Region.noSelect_spec hsel) hs hc hn hkn (fun listed' a' hL => seqB_ready hL.1) l.length listed a undef inv (Region.free_spec h0 hf) hr' (fun h => absurd e h) (by rw [if_pos e]; exact hrec _ h)
    · rw [if_neg e] at h
      obtain ⟨v, hy, hK⟩ := h
      exact headU_first h0 (Region.noSelect_spec hsel) hs hc hn hkn (fun listed' a' hL => seqB_ready hL.1) l.length listed a v inv (Region.free_spec h0 hf) hr' (fun _ => hy) (by rw [if_neg e]; exact hrec _ hK)

theorem Oper.wp_of_yields {C : World → Prop} {o : Oper} {v : Value} {a : Act} {K' : Act → World → Prop} {Q' : Exit → Act → World → Prop} {w : World} (hw : C w) (h1 : ∀ w, C w → o.quietAt P a C w v)
    (h : ∀ w', C w' → K' (a.put o.dst v) w') : o.wp P a w K' Q' :=
  Oper.wp_of_quiet (C := C) (K := fun a' => a' = a.put o.dst v) hw (fun a' w' hw' e => by rw [e]; exact h w' hw') ⟨v, h1, rfl⟩

theorem wpOp_of_yields {C : World → Prop} {i : Nat} {o : Oper} {v : Value} {a : Act} {K' : Act → World → Prop} {Q' : Exit → Act → World → Prop} {w : World} (hi : ops[i]? = some o) (hw : C w) (hy : YieldsIn P ops C o v a)
    (h : ∀ w', C w' → K' (a.put o.dst v) w') : wpOp P ops Q' i K' a w := by
  unfold wpOp
  simp only [hi]
  rcases hy with ⟨hwt, hv⟩ | ⟨hwt, rfl⟩
  · simp only [hwt, if_true]; exact .inl (Oper.wp_of_yields hw hv h)
  · simp only [hwt, Bool.false_eq_true, if_false]; exact h w hw

/-- Where the walk stands: nothing made yet, or the variable made, in block B. -/
def Stage (W : World) (Z : Obj) (t : Tmp) (n : Nat) (listed : Array Bool) (a r : Act) (w : World) : Prop :=
  (listed.getD n true = false ∧ r = a ∧ XC W w) ∨
  (listed.getD n true = true ∧ ∃ (W' : Ext W) (B : Nat), W.heap.size ≤ B ∧ B < W'.w.heap.size ∧ W'.w.heap[B]? = some Z ∧ r = a.put (some t) (.pointer (some ⟨B, 0, none⟩)) ∧ XC W'.w w)

theorem sim {n g : Nat} {Lq : Act → Prop} {Z : Obj} {t : Tmp} {al : Oper} {Q' : Exit → Act → World → Prop} (hn : ops[n]? = some al) (hdst : al.dst = some t) (hg : al.guard = none) (haf : al.after = #[])
    (hal : ∀ (a : Act) (w : World), (execOp a.eval al).run P w = .ok (.value (.pointer (some ⟨w.heap.size, 0, none⟩))) (w.alloc Z))
    (hsel : ∀ (j : Nat) (o : Oper) cs b, ops[j]? = some o → o.op ≠ .select cs b) (hap : ∀ i o, i < n → ops[i]? = some o → o.apart ops al = true)
    (hL : ∀ (W' : Ext W) (B : Nat) (listed : Array Bool) (a : Act) (w : World), W.heap.size ≤ B → B < W'.w.heap.size → W'.w.heap[B]? = some Z → XC W'.w w → Region.seqB md ops g (n + 1) listed = true → Lq a →
      wpAny P md ops Q' g listed (a.put (some t) (.pointer (some ⟨B, 0, none⟩))) w) :
    ∀ (f : Nat) (listed : Array Bool) (a r : Act) (w : World), listed.size = ops.size → Stage W Z t n listed a r w →
      headU P md ops W n (n + 1) (fun listed' a' => Region.seqB md ops g (n + 1) listed' = true ∧ Lq a') f listed a → wpAny P md ops Q' (f + g) listed r w
  | 0, listed, a, r, w, hsz, hst, h => by
    rw [Nat.zero_add]
    rcases hst with ⟨h1, _, _⟩ | ⟨_, W', B, hB0, hB1, hB2, rfl, hw⟩
    · exfalso
      have : n ∈ Region.ready md ops listed := mem_ready.2 ⟨h1, al, hn, fun e he => by rw [haf] at he; simp at he⟩
      have := seqB_ready h.1 n this
      omega
    · exact hL W' B listed a w hB0 hB1 hB2 hw h.1 h.2
  | f + 1, listed, a, r, w, hsz, hst, h => by
    rw [show f + 1 + g = (f + g) + 1 by omega]
    refine ⟨fun h0 => absurd h0 h.1, fun i hi => ?_⟩
    obtain ⟨hin, hu⟩ := h.2 i hi
    obtain ⟨hun, oi, hoi, _⟩ := mem_ready.1 hi
    have hsz' : (listed.setIfInBounds i true).size = ops.size := by simpa using hsz
    by_cases e : i = n
    · subst e
      have : oi = al := Option.some.inj (hoi.symm.trans hn)
      subst this
      unfold uOp at hu
      rw [if_pos (Nat.le_refl _)] at hu
      rcases hst with ⟨h1, rfl, u, rfl⟩ | ⟨h1, _⟩
      · unfold wpOp
        simp only [hn]
        have hwt : Region.wanted oi (yielded ops r.tmps) = true := by unfold Region.wanted; rw [hg]
        rw [if_pos hwt]
        refine .inl ?_
        unfold Oper.wp
        rw [hal]
        show wpAny P md ops Q' (f + g) (listed.setIfInBounds i true) (r.put oi.dst _) (u.w.alloc Z)
        rw [hdst]
        have hb : Below W.heap.size W (u.w.alloc Z) := u.h.alloc u.h.size Z
        refine sim hn hdst hg haf hal hsel hap hL f _ r _ _ hsz' (.inr ⟨?_, ⟨u.w.alloc Z, hb⟩, u.w.heap.size, u.h.size, by simp, ?_, rfl, ⟨_, Below.refl _ _⟩, rfl⟩) hu
        · have : i < ops.size := (Array.getElem?_eq_some_iff.1 hoi).1
          simp [hsz, this]
        · show (u.w.heap.push Z)[u.w.heap.size]? = some Z
          simp
      · rw [hun] at h1; cases h1
    · unfold uOp at hu
      rw [if_neg (by omega)] at hu
      simp only [hoi] at hu
      obtain ⟨v, hy, hk⟩ := hu
      have hln : (listed.setIfInBounds i true).getD n true = listed.getD n true := getD_set_ne true e
      rcases hst with ⟨h1, rfl, hw⟩ | ⟨h1, W', B, hB0, hB1, hB2, rfl, hw⟩
      · exact wpOp_of_yields (C := XC W) hoi hw (hy ⟨W, Below.refl _ _⟩) fun w' hw' => sim hn hdst hg haf hal hsel hap hL f _ _ _ _ hsz' (.inl ⟨hln.trans h1, rfl, hw'⟩) hk
      · obtain ⟨q1, q2, q3⟩ := Oper.apart_spec (hap i oi (by omega) hoi)
        rw [hdst] at q2 q3
        have hy' : YieldsIn P ops (XC W'.w) oi v (a.put (some t) (.pointer (some ⟨B, 0, none⟩))) :=
          (hy W').of_same (execOp_put oi (fun cs b => hsel i oi cs b hoi) a (some t) _ q3) (wanted_put oi a (some t) _ q3)
        refine wpOp_of_yields (C := XC W'.w) hoi hw hy' fun w' hw' => ?_
        exact sim hn hdst hg haf hal hsel hap hL f _ _ _ _ hsz' (.inr ⟨hln.trans h1, W', B, hB0, hB1, hB2, (Act.put_comm a v _ q2).symm, hw'⟩) hk

theorem put_other (a : Act) (x : Option Tmp) (v : Value) (d : Tmp) (h : x ≠ some d) : (a.put x v).tmps.getD d undef = a.tmps.getD d undef := by
  cases x with
  | none => rfl
  | some e =>
    have : e ≠ d := fun c => h (by rw [c])
    simp [Act.put, Array.getD_eq_getD_getElem?, Array.getElem?_setIfInBounds, this]
theorem put_same (a : Act) (v : Value) (d : Tmp) (h : d < a.tmps.size) : (a.put (some d) v).tmps.getD d undef = v := by
  simp [Act.put, Array.getD_eq_getD_getElem?, h]
theorem put_size (a : Act) (x : Option Tmp) (v : Value) : (a.put x v).tmps.size = a.tmps.size := by cases x <;> simp [Act.put]

theorem quiet_final {C : World → Prop} {A : Act} {d : Tmp} : ∀ (l : List Oper) (a : Act), (∀ o ∈ l, o.dst ≠ some d) → wpQuiet P ops C (fun a' => a' = A) l a → A.tmps.getD d undef = a.tmps.getD d undef
  | [], a, _, h => by rw [← (show a = A from h)]
  | o :: l, a, hd, h => by
    unfold wpQuiet at h
    have ho := hd o (by simp)
    have hl : ∀ p ∈ l, p.dst ≠ some d := fun p hp => hd p (by simp [hp])
    split at h
    · obtain ⟨v, _, hk⟩ := h
      rw [quiet_final l _ hl hk, put_other _ _ _ _ ho]
    · rw [quiet_final l _ hl h, put_other _ _ _ _ ho]

/-- Each operation writes a slot of its own. -/
def dstOK (m : Nat) : List Oper → Bool
  | [] => true
  | o :: r => (match o.dst with | some d => decide (d < m) && r.all (fun p => p.dst != some d) | none => false) && dstOK m r

theorem wpU_of {n m : Nat} {A : Act} : ∀ (l : List Oper) (k : Nat) (a : Act), k + l.length ≤ n → dstOK m l = true → a.tmps.size = m →
    (∀ W' : Ext W, wpQuiet P ops (XC W'.w) (fun a' => a' = A) l a) → wpU P ops W n (fun a' => a' = A) k l a
  | [], _, a, _, _, _, h => h ⟨W, Below.refl _ _⟩
  | o :: l, k, a, hk, hd, hsz, h => by
    have hk' : k + (l.length + 1) ≤ n := hk
    have hkn : ¬ n ≤ k := by omega
    unfold wpU
    rw [if_neg hkn]
    unfold dstOK at hd
    simp only [Bool.and_eq_true] at hd
    obtain ⟨hd1, hd2⟩ := hd
    cases hdst : o.dst with
    | none => rw [hdst] at hd1; cases hd1
    | some d =>
      rw [hdst] at hd1
      simp only [Bool.and_eq_true, decide_eq_true_eq, List.all_eq_true] at hd1
      obtain ⟨hdm, hdl⟩ := hd1
      have hl : ∀ p ∈ l, p.dst ≠ some d := fun p hp e => by have := hdl p hp; rw [e] at this; simp at this
      have hrec := fun v h' => wpU_of (n := n) (m := m) (A := A) l (k + 1) (a.put (some d) v) (by omega) hd2 (by rw [put_size]; exact hsz) h'
      by_cases hw : Region.wanted o (yielded ops a.tmps) = true
      · have hv : ∀ W' : Ext W, (∀ w, XC W'.w w → o.quietAt P a (XC W'.w) w (A.tmps.getD d undef)) ∧ wpQuiet P ops (XC W'.w) (fun a' => a' = A) l (a.put (some d) (A.tmps.getD d undef)) := fun W' => by
          have h0 := h W'
          unfold wpQuiet at h0
          rw [if_pos hw] at h0
          obtain ⟨v, h1, h2⟩ := h0
          rw [hdst] at h2
          have e : A.tmps.getD d undef = v := by rw [quiet_final l _ hl h2, put_same a v d (by rw [hsz]; exact hdm)]
          rw [e]
          exact ⟨h1, h2⟩
        exact ⟨_, fun W' => .inl ⟨hw, (hv W').1⟩, hrec _ fun W' => (hv W').2⟩
      · refine ⟨undef, fun W' => .inr ⟨by simpa using hw, rfl⟩, hrec _ fun W' => ?_⟩
        have h0 := h W'
        unfold wpQuiet at h0
        rw [if_neg hw, hdst] at h0
        exact h0

theorem wpU_snoc {n : Nat} {K : Act → Prop} {al : Oper} : ∀ (l : List Oper) (k : Nat) (a : Act), k + l.length = n → wpU P ops W n K k l a → wpU P ops W n K k (l ++ [al]) a
  | [], k, a, hk, h => by
    have : k = n := by simpa using hk
    subst this
    show wpU P ops W k K k [al] a
    unfold wpU
    rw [if_pos (Nat.le_refl _)]
    exact h
  | o :: l, k, a, hk, h => by
    have hkn : ¬ n ≤ k := by simp only [List.length_cons] at hk; omega
    show wpU P ops W n K k (o :: (l ++ [al])) a
    unfold wpU at h ⊢
    rw [if_neg hkn] at h ⊢
    obtain ⟨v, h1, h2⟩ := h
    exact ⟨v, h1, wpU_snoc l (k + 1) _ (by simp only [List.length_cons] at hk; omega) h2⟩
end

theorem wpAny_float {P : Program} {Q : Exit → Act → World → Prop} {a : Act} {w : World} {l : List Oper} (n m : Nat) (al : Oper) (t : Tmp) (Z : Obj)
    (hB : Region.lexTailB .any l.toArray (n + 1) = true) (hn : l[n]? = some al) (hdst : al.dst = some t) (hg : al.guard = none) (haf : al.after = #[])
    (hal : ∀ (a : Act) (w : World), (execOp a.eval al).run P w = .ok (.value (.pointer (some ⟨w.heap.size, 0, none⟩))) (w.alloc Z))
    (hap : ((l.take n).all fun o => o.apart l.toArray al) = true) (hd : dstOK m (l.take n) = true) (hsz : a.tmps.size = m) {A : Act}
    (h1 : ∀ W' : Ext w, wpQuiet P l.toArray (fun w' => ∃ u : Ext W'.w, w' = u.w) (fun a' => a' = A) (l.take n) a)
    (h2 : ∀ (B : Nat) (w' : World), Below w.heap.size w w' → w.heap.size ≤ B → B < w'.heap.size → w'.heap[B]? = some Z → wpList P l.toArray Q (l.drop (n + 1)) (A.put (some t) (.pointer (some ⟨B, 0, none⟩))) w') :
    wpAny P .any l.toArray Q l.toArray.size (Array.replicate l.toArray.size false) a { w with drawn := w.drawn + 1 } := by
  simp only [Region.lexTailB, Bool.and_eq_true, decide_eq_true_eq] at hB
  obtain ⟨⟨⟨⟨hsel, hn1⟩, hs⟩, hc⟩, hlex⟩ := hB
  have hn' : n + 1 < l.length := by simpa using hn1
  have htl : (l.take (n + 1)).length = n + 1 := by simp; omega
  have hdl : (l.drop (n + 1)).length = l.toArray.size - (n + 1) := by simp
  have hsplit : l.take (n + 1) = l.take n ++ [al] := by
    rw [List.take_add_one, hn]; rfl
  have inv0 : HeadInv .any l.toArray (n + 1) (Array.replicate l.toArray.size false) :=
    ⟨by simp, fun j oj _ hl => (by rw [getD_replicate_false] at hl; cases hl), fun t _ ht => getD_in (by simpa using ht) (getD_replicate_false _ _)⟩
  have hU := wpU_snoc (al := al) (l.take n) 0 a (by simp; omega) (wpU_of (W := w) (n := n) (m := m) (A := A) (l.take n) 0 a (by simp; omega) hd hsz h1)
  rw [← hsplit] at hU
  have H := headU_lex (md := .any) (g := l.toArray.size - (n + 1)) hsel hs hc hn1 (l.take (n + 1)) 0 _ a (fun j hj => by
    have hj' : j < n + 1 := by rw [htl] at hj; exact hj
    simp [hj']) (by simpa using htl) inv0 (by rw [htl]; exact hlex) hU
  have hnA : l.toArray[n]? = some al := by simpa using hn
  have := sim (P := P) (W := w) (Q' := Q) (Z := Z) (t := t) hnA hdst hg haf hal (Region.noSelect_spec hsel)
    (fun i o hi ho => by
      have h3 := List.all_eq_true.1 hap o (by
        refine List.mem_iff_getElem?.2 ⟨i, ?_⟩
        rw [List.getElem?_take, if_pos hi]
        simpa using ho)
      exact h3)
    (fun W' B listed a' w' hB0 hB1 hB2 ⟨u, hu⟩ hseq hA => by
      subst hu
      subst hA
      have hb := u.h
      have h3 := h2 B u.w (W'.h.trans (hb.mono W'.h.size)) hB0 (Nat.lt_of_lt_of_le hB1 hb.size) ((hb.block B hB1).trans hB2)
      have := wpAny_of_seq (md := .any) (Q' := Q) (l.drop (n + 1)) (n + 1) listed _ u.w (fun j => by simp [List.getElem?_drop]) (by rw [hdl]; exact hseq) h3
      rwa [hdl] at this)
    _ _ a a { w with drawn := w.drawn + 1 } (by simp) (.inl ⟨getD_in (by simp; omega) (getD_replicate_false _ _), rfl, ⟨_, (Below.refl _ _).drew⟩, rfl⟩) H
  rw [htl, show n + 1 + (l.toArray.size - (n + 1)) = l.toArray.size by omega] at this
  exact this
theorem wp_region_float {P : Program} {id : Nat} {Q : Exit → Act → World → Prop} {a : Act} {w : World} {l : List Oper} (n m : Nat) (al : Oper) (t : Tmp) (Z : Obj) (hm : P.follows .mixedOrders = true)
    (hB : Region.lexTailB .any l.toArray (n + 1) = true) (hn : l[n]? = some al) (hdst : al.dst = some t) (hg : al.guard = none) (haf : al.after = #[])
    (hal : ∀ (a : Act) (w : World), (execOp a.eval al).run P w = .ok (.value (.pointer (some ⟨w.heap.size, 0, none⟩))) (w.alloc Z))
    (hap : ((l.take n).all fun o => o.apart l.toArray al) = true) (hd : dstOK m (l.take n) = true) (hsz : a.tmps.size = m) {A : Act}
    (h1 : ∀ W' : Ext w, wpQuiet P l.toArray (fun w' => ∃ u : Ext W'.w, w' = u.w) (fun a' => a' = A) (l.take n) a)
    (h2 : ∀ (B : Nat) (w' : World), Below w.heap.size w w' → w.heap.size ≤ B → B < w'.heap.size → w'.heap[B]? = some Z → wpList P l.toArray Q (l.drop (n + 1)) (A.put (some t) (.pointer (some ⟨B, 0, none⟩))) w') :
    (Code.region id l.toArray true).wp P Q a w := wp_region_any hm (wpAny_float n m al t Z hB hn hdst hg haf hal hap hd hsz h1 h2)
theorem wp_region_floats {P : Program} {id : Nat} {Q : Exit → Act → World → Prop} {a : Act} {w : World} {l : List Oper} (n m : Nat) (al : Oper) (t : Tmp) (Z : Obj) (hm : P.follows .mixedOrders = true)
    (hB : Region.lexTailB .any l.toArray (n + 1) = true) (hn : l[n]? = some al) (hdst : al.dst = some t) (hg : al.guard = none) (haf : al.after = #[])
    (hal : ∀ (a : Act) (w : World), (execOp a.eval al).run P w = .ok (.value (.pointer (some ⟨w.heap.size, 0, none⟩))) (w.alloc Z))
    (hap : ((l.take n).all fun o => o.apart l.toArray al) = true) (hd : dstOK m (l.take n) = true) (hsz : a.tmps.size = m)
    (h : ∃ A : Act, (∀ W' : Ext w, wpQuiet P l.toArray (fun w' => ∃ u : Ext W'.w, w' = u.w) (fun a' => a' = A) (l.take n) a) ∧
      ∀ (B : Nat) (w' : World), Below w.heap.size w w' → w.heap.size ≤ B → B < w'.heap.size → w'.heap[B]? = some Z → wpList P l.toArray Q (l.drop (n + 1)) (A.put (some t) (.pointer (some ⟨B, 0, none⟩))) w') :
    (Code.region id l.toArray true).wp P Q a w := by
  obtain ⟨A, h1, h2⟩ := h
  exact wp_region_float n m al t Z hm hB hn hdst hg haf hal hap hd hsz h1 h2
/-! ### Two variables made at whatever times -/
section
variable {P : Program} {ops : Array Oper} {md : Region.Mode} {W : World}
def ptrB (B : Nat) : Value := .pointer (some ⟨B, 0, none⟩)
def pb (a : Act) (t : Tmp) : Option Nat → Act
  | none => a
  | some B => a.put (some t) (ptrB B)
theorem pb_put {a : Act} {t : Tmp} {s : Option Nat} {d : Option Tmp} {v : Value} (h : ∀ x, d = some x → some t ≠ some x) : (pb a t s).put d v = pb (a.put d v) t s := by
  cases s with
  | none => rfl
  | some B => exact (Act.put_comm a v (ptrB B) h).symm
theorem exec_pb {o : Oper} (hs : ∀ cs b, o.op ≠ .select cs b) (a : Act) (t : Tmp) (s : Option Nat) (h : t ∉ o.looksAt ops) : execOp (pb a t s).eval o = execOp a.eval o := by
  cases s with
  | none => rfl
  | some B => exact execOp_put (ops := ops) o hs a (some t) (ptrB B) (fun d hd => by cases hd; exact h)
theorem wanted_pb (o : Oper) (a : Act) (t : Tmp) (s : Option Nat) (h : t ∉ o.looksAt ops) : Region.wanted o (yielded ops (pb a t s).tmps) = Region.wanted o (yielded ops a.tmps) := by
  cases s with
  | none => rfl
  | some B => exact wanted_put o a (some t) (ptrB B) (fun d hd => by cases hd; exact h)

/-- What is known of a variable that may have been made. -/
def Made (W W' : World) (Z : Obj) (listed : Array Bool) (n : Nat) (s : Option Nat) : Prop :=
  (listed.getD n true = false ∧ s = none) ∨ (listed.getD n true = true ∧ ∃ B, s = some B ∧ W.heap.size ≤ B ∧ B < W'.heap.size ∧ W'.heap[B]? = some Z)
theorem Made.more {W W' W2 : World} {Z : Obj} {listed : Array Bool} {n : Nat} {s : Option Nat} (h : Made W W' Z listed n s) (hb : Below W'.heap.size W' W2) : Made W W2 Z listed n s := by
  rcases h with h | ⟨h1, B, h2, h3, h4, h5⟩
  · exact .inl h
  · exact .inr ⟨h1, B, h2, h3, Nat.lt_of_lt_of_le h4 hb.size, (hb.block B h4).trans h5⟩
theorem Made.set {W W' : World} {Z : Obj} {listed : Array Bool} {n i : Nat} {s : Option Nat} (h : Made W W' Z listed n s) (hi : i ≠ n) : Made W W' Z (listed.setIfInBounds i true) n s := by
  unfold Made at *
  rw [getD_set_ne true hi]
  exact h
def Apart2 (s1 s2 : Option Nat) : Prop := ∀ B1 B2, s1 = some B1 → s2 = some B2 → B1 ≠ B2
theorem Made.lt {W W' : World} {Z : Obj} {listed : Array Bool} {n : Nat} {s : Option Nat} (h : Made W W' Z listed n s) : ∀ B, s = some B → B < W'.heap.size := fun B hB => by
  rcases h with ⟨_, h⟩ | ⟨_, B', h2, _, h4, _⟩
  · rw [h] at hB; cases hB
  · rw [h2] at hB; cases hB; exact h4

theorem alloc_runs {al : Oper} {t : Tmp} {Z : Obj} {i : Nat} {K : Act → World → Prop} {Q' : Exit → Act → World → Prop} {r : Act} {w : World} (hn : ops[i]? = some al) (hdst : al.dst = some t) (hg : al.guard = none)
    (hal : ∀ (a : Act) (w : World), (execOp a.eval al).run P w = .ok (.value (.pointer (some ⟨w.heap.size, 0, none⟩))) (w.alloc Z))
    (h : K (r.put (some t) (ptrB w.heap.size)) (w.alloc Z)) : wpOp P ops Q' i K r w := by
  unfold wpOp
  simp only [hn]
  have hwt : Region.wanted al (yielded ops r.tmps) = true := by unfold Region.wanted; rw [hg]
  rw [if_pos hwt]
  refine .inl ?_
  unfold Oper.wp
  rw [hal]
  show K (r.put al.dst _) (w.alloc Z)
  rw [hdst]
  exact h
theorem alloc_at (w : World) (Z : Obj) : (w.alloc Z).heap[w.heap.size]? = some Z := by
  show (w.heap.push Z)[w.heap.size]? = some Z
  simp

theorem sim2 {n g : Nat} {Lq : Act → Prop} {Z1 Z2 : Obj} {t1 t2 : Tmp} {al1 al2 : Oper} {Q' : Exit → Act → World → Prop} (hn1 : ops[n]? = some al1) (hn2 : ops[n + 1]? = some al2) (hdst1 : al1.dst = some t1) (hdst2 : al2.dst = some t2) (hg1 : al1.guard = none) (hg2 : al2.guard = none) (haf1 : al1.after = #[]) (haf2 : al2.after = #[])
    (hal1 : ∀ (a : Act) (w : World), (execOp a.eval al1).run P w = .ok (.value (.pointer (some ⟨w.heap.size, 0, none⟩))) (w.alloc Z1))
    (hal2 : ∀ (a : Act) (w : World), (execOp a.eval al2).run P w = .ok (.value (.pointer (some ⟨w.heap.size, 0, none⟩))) (w.alloc Z2)) (htt : t1 ≠ t2)
    (hsel : ∀ (j : Nat) (o : Oper) cs b, ops[j]? = some o → o.op ≠ .select cs b) (hap : ∀ i o, i < n → ops[i]? = some o → o.dst ≠ some t1 ∧ o.dst ≠ some t2 ∧ t1 ∉ o.looksAt ops ∧ t2 ∉ o.looksAt ops)
    (hL : ∀ (B1 B2 : Nat) (listed : Array Bool) (a : Act) (w : World), Below W.heap.size W w → (W.heap.size ≤ B1 ∧ B1 < w.heap.size ∧ w.heap[B1]? = some Z1) → (W.heap.size ≤ B2 ∧ B2 < w.heap.size ∧ w.heap[B2]? = some Z2) → B1 ≠ B2 → Region.seqB md ops g (n + 2) listed = true → Lq a →
      wpAny P md ops Q' g listed ((a.put (some t1) (ptrB B1)).put (some t2) (ptrB B2)) w) :
    ∀ (f : Nat) (listed : Array Bool) (a : Act) (s1 s2 : Option Nat) (W' : Ext W) (w : World), listed.size = ops.size → Made W W'.w Z1 listed n s1 → Made W W'.w Z2 listed (n + 1) s2 → Apart2 s1 s2 → XC W'.w w →
      headU P md ops W n (n + 2) (fun listed' a' => Region.seqB md ops g (n + 2) listed' = true ∧ Lq a') f listed a → wpAny P md ops Q' (f + g) listed (pb (pb a t1 s1) t2 s2) w
  | 0, listed, a, s1, s2, W', w, hsz, m1, m2, hne, ⟨u, hu⟩, h => by
    rw [Nat.zero_add]
    subst hu
    have hno : ∀ i al, ops[i]? = some al → al.after = #[] → i < n + 2 → listed.getD i true ≠ false := fun i al hi haf hlt hf => by
      have : i ∈ Region.ready md ops listed := mem_ready.2 ⟨hf, al, hi, fun e he => by rw [haf] at he; simp at he⟩
      have := seqB_ready h.1 i this
      omega
    rcases m1 with ⟨h1, _⟩ | ⟨_, B1, rfl, b1, b2, b3⟩
    · exact absurd h1 (hno n al1 hn1 haf1 (by omega))
    rcases m2 with ⟨h1, _⟩ | ⟨_, B2, rfl, c1, c2, c3⟩
    · exact absurd h1 (hno (n + 1) al2 hn2 haf2 (by omega))
    have hb := u.h
    exact hL B1 B2 listed a u.w (W'.h.trans (hb.mono W'.h.size)) ⟨b1, Nat.lt_of_lt_of_le b2 hb.size, (hb.block B1 b2).trans b3⟩ ⟨c1, Nat.lt_of_lt_of_le c2 hb.size, (hb.block B2 c2).trans c3⟩ (hne B1 B2 rfl rfl) h.1 h.2
  | f + 1, listed, a, s1, s2, W', w, hsz, m1, m2, hne, hw, h => by
    rw [show f + 1 + g = (f + g) + 1 by omega]
    refine ⟨fun h0 => absurd h0 h.1, fun i hi => ?_⟩
    obtain ⟨hin, hu⟩ := h.2 i hi
    obtain ⟨hun, oi, hoi, _⟩ := mem_ready.1 hi
    have hsz' : (listed.setIfInBounds i true).size = ops.size := by simpa using hsz
    have hil : i < ops.size := (Array.getElem?_eq_some_iff.1 hoi).1
    have hlist : (listed.setIfInBounds i true).getD i true = true := by simp [hsz, hil]
    unfold uOp at hu
    by_cases e1 : i = n
    · subst e1
      rw [if_pos (Nat.le_refl _)] at hu
      rcases m1 with ⟨_, rfl⟩ | ⟨h1, _⟩
      · obtain ⟨u, rfl⟩ := hw
        refine alloc_runs hn1 hdst1 hg1 hal1 ?_
        have hbu : Below W'.w.heap.size W'.w (u.w.alloc Z1) := u.h.alloc u.h.size Z1
        have hb : Below W.heap.size W (u.w.alloc Z1) := W'.h.trans (hbu.mono W'.h.size)
        rw [show (pb (pb a t1 none) t2 s2).put (some t1) (ptrB u.w.heap.size) = pb (pb a t1 (some u.w.heap.size)) t2 s2 from pb_put (fun x hx c => htt (by rw [← hx] at c; injection c with c; exact c.symm))]
        refine sim2 hn1 hn2 hdst1 hdst2 hg1 hg2 haf1 haf2 hal1 hal2 htt hsel hap hL f _ a (some u.w.heap.size) s2 ⟨u.w.alloc Z1, hb⟩ _ hsz' (.inr ⟨hlist, _, rfl, Nat.le_trans W'.h.size u.h.size, by simp, alloc_at _ _⟩) ((m2.more hbu).set (by omega)) ?_ ⟨⟨_, Below.refl _ _⟩, rfl⟩ hu
        intro B1 B2 g1 g2
        cases g1
        have := m2.lt B2 g2
        have := u.h.size
        omega
      · rw [hun] at h1; cases h1
    · by_cases e2 : i = n + 1
      · subst e2
        rw [if_pos (by omega)] at hu
        rcases m2 with ⟨_, rfl⟩ | ⟨h1, _⟩
        · obtain ⟨u, rfl⟩ := hw
          refine alloc_runs hn2 hdst2 hg2 hal2 ?_
          have hbu : Below W'.w.heap.size W'.w (u.w.alloc Z2) := u.h.alloc u.h.size Z2
          have hb : Below W.heap.size W (u.w.alloc Z2) := W'.h.trans (hbu.mono W'.h.size)
          show wpAny P md ops Q' (f + g) _ (pb (pb a t1 s1) t2 (some u.w.heap.size)) _
          refine sim2 hn1 hn2 hdst1 hdst2 hg1 hg2 haf1 haf2 hal1 hal2 htt hsel hap hL f _ a s1 (some u.w.heap.size) ⟨u.w.alloc Z2, hb⟩ _ hsz' ((m1.more hbu).set (by omega)) (.inr ⟨hlist, _, rfl, Nat.le_trans W'.h.size u.h.size, by simp, alloc_at _ _⟩) ?_ ⟨⟨_, Below.refl _ _⟩, rfl⟩ hu
          intro B1 B2 g1 g2
          cases g2
          have := m1.lt B1 g1
          have := u.h.size
          omega
        · rw [hun] at h1; cases h1
      · rw [if_neg (by omega)] at hu
        simp only [hoi] at hu
        obtain ⟨v, hy, hk⟩ := hu
        obtain ⟨q1, q2, q3, q4⟩ := hap i oi (by omega) hoi
        have hsl := fun cs b => hsel i oi cs b hoi
        have hy' : YieldsIn P ops (XC W'.w) oi v (pb (pb a t1 s1) t2 s2) :=
          (hy W').of_same ((exec_pb (ops := ops) hsl _ t2 s2 q4).trans (exec_pb (ops := ops) hsl a t1 s1 q3)) ((wanted_pb oi _ t2 s2 q4).trans (wanted_pb oi a t1 s1 q3))
        refine wpOp_of_yields (C := XC W'.w) hoi hw hy' fun w' hw' => ?_
        rw [pb_put (fun x hx c => q2 (hx.trans c.symm)), pb_put (fun x hx c => q1 (hx.trans c.symm))]
        exact sim2 hn1 hn2 hdst1 hdst2 hg1 hg2 haf1 haf2 hal1 hal2 htt hsel hap hL f _ _ s1 s2 W' w' hsz' (m1.set e1) (m2.set e2) hne hw' hk
end

theorem wpU_snoc2 {P : Program} {ops : Array Oper} {W : World} {n : Nat} {K : Act → Prop} : ∀ (l l2 : List Oper) (k : Nat) (a : Act), k + l.length = n → wpU P ops W n K k l a → wpU P ops W n K k (l ++ l2) a
  | [], l2, k, a, hk, h => by
    have : k = n := by simpa using hk
    subst this
    show wpU P ops W k K k l2 a
    have key : ∀ (l2 : List Oper) (j : Nat), k ≤ j → wpU P ops W k K j l2 a := fun l2 => by
      induction l2 with
      | nil => intro j _; exact h
      | cons o l2 ih => intro j hj; unfold wpU; rw [if_pos hj]; exact ih (j + 1) (by omega)
    exact key l2 k (Nat.le_refl _)
  | o :: l, l2, k, a, hk, h => by
    have hkn : ¬ n ≤ k := by simp only [List.length_cons] at hk; omega
    show wpU P ops W n K k (o :: (l ++ l2)) a
    unfold wpU at h ⊢
    rw [if_neg hkn] at h ⊢
    obtain ⟨v, h1, h2⟩ := h
    exact ⟨v, h1, wpU_snoc2 l l2 (k + 1) _ (by simp only [List.length_cons] at hk; omega) h2⟩

theorem wp_region_float2 {P : Program} {id : Nat} {Q : Exit → Act → World → Prop} {a : Act} {w : World} {l : List Oper} (n m : Nat) (al1 al2 : Oper) (t1 t2 : Tmp) (Z1 Z2 : Obj) (hm : P.follows .mixedOrders = true)
    (hB : Region.lexTailB .any l.toArray (n + 2) = true) (hn1 : l[n]? = some al1) (hn2 : l[n + 1]? = some al2) (hdst1 : al1.dst = some t1) (hdst2 : al2.dst = some t2) (hg1 : al1.guard = none) (hg2 : al2.guard = none) (haf1 : al1.after = #[]) (haf2 : al2.after = #[])
    (hal1 : ∀ (a : Act) (w : World), (execOp a.eval al1).run P w = .ok (.value (.pointer (some ⟨w.heap.size, 0, none⟩))) (w.alloc Z1))
    (hal2 : ∀ (a : Act) (w : World), (execOp a.eval al2).run P w = .ok (.value (.pointer (some ⟨w.heap.size, 0, none⟩))) (w.alloc Z2))
    (htt : (t1 != t2) = true) (hap : ((l.take n).all fun o => o.dst != some t1 && o.dst != some t2 && !(o.looksAt l.toArray).contains t1 && !(o.looksAt l.toArray).contains t2) = true) (hd : dstOK m (l.take n) = true) (hsz : a.tmps.size = m)
    (h : ∃ A : Act, (∀ W' : Ext w, wpQuiet P l.toArray (fun w' => ∃ u : Ext W'.w, w' = u.w) (fun a' => a' = A) (l.take n) a) ∧
      ∀ (B1 B2 : Nat) (w' : World), Below w.heap.size w w' → (w.heap.size ≤ B1 ∧ B1 < w'.heap.size ∧ w'.heap[B1]? = some Z1) → (w.heap.size ≤ B2 ∧ B2 < w'.heap.size ∧ w'.heap[B2]? = some Z2) → B1 ≠ B2 →
        wpList P l.toArray Q (l.drop (n + 2)) ((A.put (some t1) (.pointer (some ⟨B1, 0, none⟩))).put (some t2) (.pointer (some ⟨B2, 0, none⟩))) w') :
    (Code.region id l.toArray true).wp P Q a w := by
  obtain ⟨A, h1, h2⟩ := h
  simp only [Region.lexTailB, Bool.and_eq_true, decide_eq_true_eq] at hB
  obtain ⟨⟨⟨⟨hsel, hnn⟩, hs⟩, hc⟩, hlex⟩ := hB
  have hn' : n + 2 < l.length := by simpa using hnn
  have htl : (l.take (n + 2)).length = n + 2 := by simp; omega
  have hdl : (l.drop (n + 2)).length = l.toArray.size - (n + 2) := by simp
  have hsplit : l.take (n + 2) = l.take n ++ [al1, al2] := by
    rw [show n + 2 = n + 1 + 1 from rfl, List.take_add_one, List.take_add_one, hn1, hn2]; simp
  have inv0 : HeadInv .any l.toArray (n + 2) (Array.replicate l.toArray.size false) :=
    ⟨by simp, fun j oj _ hl => (by rw [getD_replicate_false] at hl; cases hl), fun t _ ht => getD_in (by simpa using ht) (getD_replicate_false _ _)⟩
  have hU := wpU_snoc2 (l.take n) [al1, al2] 0 a (by simp; omega) (wpU_of (W := w) (n := n) (m := m) (A := A) (l.take n) 0 a (by simp; omega) hd hsz h1)
  rw [← hsplit] at hU
  have H := headU_lex (md := .any) (N := n + 2) (g := l.toArray.size - (n + 2)) hsel hs hc hnn (l.take (n + 2)) 0 _ a (fun j hj => by
    have hj' : j < n + 2 := by rw [htl] at hj; exact hj
    simp [hj']) (by simpa using htl) inv0 (by rw [htl]; exact hlex) hU
  refine wp_region_any hm ?_
  have := sim2 (P := P) (W := w) (Q' := Q) (Z1 := Z1) (Z2 := Z2) (t1 := t1) (t2 := t2) (al1 := al1) (al2 := al2) (ops := l.toArray) (by simpa using hn1) (by simpa using hn2) hdst1 hdst2 hg1 hg2 haf1 haf2 hal1 hal2 (by simpa using htt) (Region.noSelect_spec hsel)
    (fun i o hi ho => by
      have h3 := List.all_eq_true.1 hap o (by
        refine List.mem_iff_getElem?.2 ⟨i, ?_⟩
        rw [List.getElem?_take, if_pos hi]
        simpa using ho)
      simp only [Bool.and_eq_true, bne_iff_ne, Bool.not_eq_true', List.contains_eq_mem, decide_eq_false_iff_not] at h3
      exact ⟨h3.1.1.1, h3.1.1.2, h3.1.2, h3.2⟩)
    (fun B1 B2 listed a' w' hb g1 g2 hne hseq hA => by
      subst hA
      have h3 := h2 B1 B2 w' hb g1 g2 hne
      have := wpAny_of_seq (md := .any) (Q' := Q) (l.drop (n + 2)) (n + 2) listed _ w' (fun j => by simp [List.getElem?_drop]) (by rw [hdl]; exact hseq) h3
      rwa [hdl] at this)
    (l.take (n + 2)).length (Array.replicate l.toArray.size false) a none none ⟨{ w with drawn := w.drawn + 1 }, (Below.refl _ _).drew⟩ { w with drawn := w.drawn + 1 } (by simp) (.inl ⟨getD_in (by simp; omega) (getD_replicate_false _ _), rfl⟩) (.inl ⟨getD_in (by simp; omega) (getD_replicate_false _ _), rfl⟩) (fun _ _ e => by cases e) ⟨⟨_, Below.refl _ _⟩, rfl⟩ H
  rw [htl, show n + 2 + (l.toArray.size - (n + 2)) = l.toArray.size by omega] at this
  exact this

theorem block_cell {w : World} {g : Nat} {cs : Array Value} {t : TypeId} {fr : Nat × Nat} (h : w.heap[g]? = some (.cells cs t fr)) (i : Nat) : w.cell? ⟨g, i, none⟩ = cs[i]? := by simp [World.cell?, h]
theorem block_free {w : World} {g : Nat} {cs : Array Value} {t : TypeId} (h : w.heap[g]? = some (.cells cs t (0, 0))) : ∀ i, w.frozen? ⟨g, i, none⟩ = false := fun i => by simp [World.frozen?, h]
end Go.Proofs.YtbbhppjamighdaaDoor
